/- Nets, cells, flags: what the functions do (part 2). -/
import Derived.Test.YtoifagpcndmlgaaGreatDoorNetA
open Go.Ab.Tryz
open Go.Ab.Tryz renaming abEnv->zB,e335E->X9,e3E->Yn
open List renaming replicate->zM,mem_of_getElem?->Xa,take_succ_eq_append_getElem->Xf,getElem?_replicate->Xg,length_set->Xi,map_cons->Xk,range->Xm,length_take->Xp,take->Xq,drop->Xr,take_of_length_le->Xs,flatMap_eq_foldl->Xu,getElem?_append_right->Xy,nodup_cons->Xz,append_nil->XA,length_append->XB,ext_getElem?->XF,mem_cons->XG,length_replicate->XI,take_append_of_le_length->XL,filterMap_nil->XO,getD_eq_getElem?_getD->XQ,nodup_append->XR,getElem?_map->XS,length_range->XT,cons_append->XW,getElem?_eq_getElem->XX,getElem_mem->XY,drop_zero->X7,getElem?_append->Yb,getElem?_range->Yc,take_succ_cons->Yd,map_eq_flatMap->Ye,take_replicate->Yf,replicate_zero->Yg,map_nil->Yl
open Int renaming cast_ofNat_Int->zO,toNat_natCast->Xd,tdiv_eq_ediv_of_nonneg->Xx,ofNat_eq_natCast->X8,ofNat->Yi
open Nat renaming ble_eq_true_of_le->Xb,le_trans->Xe,le_refl->Xh,lt_of_succ_le->Xl,mul_one->Xn,zero_add->Xo,zero_mul->Xt,lt_of_lt_of_le->XC,xor_lt_two_pow->XD,lt_of_le_of_lt->XE,beq->XH,and_le_left->XK,ble->XM,one_mul->XN,blt_eq->XU,blt->XV,le_of_lt->XZ,le_total->X2,min_eq_left->X4,eq_of_beq_eq_true->X5,mul_le_mul->X6,land->Ya,beq_refl->Yh,sub_zero->Yj,sub_self->Yk,add_zero->Ym
open Option renaming isSome_none->Xc,getD_none->Xv,getD_some->Xw,map_some->XJ,map_none->X3
open Prod renaming fst->Xj
open Bool renaming and_true->XP
set_option maxHeartbeats 4000000
set_option linter.defProp false
set_option linter.unusedVariables false
set_option linter.unusedSimpArgs false
section
namespace Go.Ab
def EM(l:List (Int×Value×Nat)):List (Value×Value×Nat):=l.map fun p=>(.int .i64 p.1,p.2.1,p.2.2)
def dK(f:Int->Option Value)(x:Int)(v:Option Value):Int->Option Value:=fun y=>if y=x then v else f y
def dy(a:List (Value×Value×Nat))(c:Nat)(f:Int->Option Value):Prop:=
 ∃l,a=EM l/\(l.map Xj).Nodup/\(l.map fun p=>p.2.2).Nodup/\(∀p∈l,p.2.2<c)/\ ∀x v,f x=some v↔ ∃n,(x,v,n)∈l
theorem rS{x y:Int}:bH (.int .i64 x) (.int .i64 y)=some (decide (x=y)):=by
 show some (gf x y)=_
 congr 1
 rw [j9]
theorem zi{l:List (Int×Value×Nat)}(a:(l.map Xj).Nodup){x:Int}{v:Value}{n:Nat}(h:(x,v,n)∈l):aP (.int .i64 x) (EM l)=some (some (v,n)):=by
 induction l with
 |nil=>cases h
 | cons p l b=>
   obtain⟨y,w,m⟩:=p
   show(match bH (.int .i64 x) (.int .i64 y)with|none=>none|some true=>some (some (w,m))|some false=>aP (.int .i64 x) (EM l))=_
   rw [rS]
   grind
theorem find_miss{l:List (Int×Value×Nat)}{x:Int}(h:x∉l.map Xj):aP (.int .i64 x) (EM l)=some none:=by
 induction l with
 |nil=>rfl
 | cons p l a=>
   obtain⟨y,w,m⟩:=p
   show(match bH (.int .i64 x) (.int .i64 y)with|none=>none|some true=>some (some (w,m))|some false=>aP (.int .i64 x) (EM l))=_
   simp_all[rS,Xk,XG,not_or,decide_eq_false]
theorem rf{l:List (Int×Value×Nat)}(c:(l.map Xj).Nodup){x:Int}{v:Value}{n:Nat}(h:(x,v,n)∈l):
 ∃a b,l=a++(x,v,n)::b/\(∀w,iB (.int .i64 x) w (EM l)=EM (a++(x,w,n)::b))/\jk (.int .i64 x) (EM l)=EM (a++b):=by
 induction l with
 |nil=>cases h
 | cons p l d=>
   obtain⟨y,w,m⟩:=p
   rw [Xk,Xz]at c
   by_cases e:x=y
   . subst e
     rcases List.mem_cons.1 h with h|h
     . cases h
       refine⟨[],l,rfl,fun u=>?_,?_⟩
       . show(match bH (.int .i64 x) (.int .i64 x)with|some true=>_|_=>_)=_
         rw [rS,decide_eq_true rfl];rfl
       . show(match bH (.int .i64 x) (.int .i64 x)with|some true=>_|_=>_)=_
         rw [rS,decide_eq_true rfl];rfl
     grind
   . rcases List.mem_cons.1 h with h|h
     . grind
     grind[bH,iB,EM,rS,decide_eq_false,jk]
theorem sC{a b:List (Int×Value×Nat)}{x:Int}{v w:Value}{n:Nat}(c:((a++(x,v,n)::b).map fun p=>p.2.2).Nodup):gV n w (EM (a++(x,v,n)::b))=some (EM (a++(x,w,n)::b)):=by
 induction a with
 | nil=>
   show(bif XH n n then _ else _)=_
   rw [Yh];rfl
 | cons p a d=>
   obtain⟨y,u,m⟩:=p
   rw [XW,Xk,Xz]at c
   grind[XH,X5,absurd,gV,EM]
theorem fst_app{a b:List (Int×Value×Nat)}{x:Int}{v:Value}{n:Nat}:(a++(x,v,n)::b).map Xj=a.map Xj++x::b.map Xj:=by simp
section
variable{es:List (Value×Value×Nat)}{c:Nat}{f:Int->Option Value}{x:Int}
theorem tD:dy [] 0 (fun _=>none):=⟨[],rfl,.nil,.nil,fun _ h=>(by cases h),fun x v=>⟨fun h=>(by cases h),fun⟨_,h⟩=>(by cases h)⟩⟩
theorem dy.hit(h:dy es c f){v:Value}(hf:f x=some v): ∃n,aP (.int .i64 x) es=some (some (v,n)):=by
 obtain⟨l,rfl,a,b,d,e⟩:=h
 grind[hf,zi]
theorem dy.miss(h:dy es c f)(hf:f x=none):aP (.int .i64 x) es=some none:=by
 obtain⟨l,rfl,e,g,i,a⟩:=h
 refine find_miss fun b=>?_
 obtain⟨⟨y,v,n⟩,d,rfl⟩:=List.mem_map.1 b
 have:=(a y v).2 ⟨n,d⟩
 grind
theorem sY{a b:List (Int×Value×Nat)}{v w:Value}{n:Nat}(e:((a++(x,v,n)::b).map Xj).Nodup)(j:((a++(x,v,n)::b).map fun p=>p.2.2).Nodup)(g: ∀p∈a++(x,v,n)::b,p.2.2<c)
 (k: ∀x' v',f x'=some v'↔ ∃h,(x',v',h)∈a++(x,v,n)::b):dy (EM (a++(x,w,n)::b)) c (dK f x (some w)):=by
 have i:=e
 rw [fst_app,XR]at i
 refine⟨_,rfl,by grind,by grind,fun p d=>?_,fun y u=>?_⟩
 . rcases List.mem_append.1 d with d|d
   . grind
   . rcases List.mem_cons.1 d with rfl|d
     . exact g (x,v,n) (by simp)
     grind
 . unfold dK
   grind
theorem tB{l:List (Int×Value×Nat)}{w:Value}(g:(l.map Xj).Nodup)(h:(l.map fun p=>p.2.2).Nodup)(i: ∀p∈l,p.2.2<c)(b: ∀x' v',f x'=some v'↔ ∃d,(x',v',d)∈l)(hf:f x=none):
 dy (EM (l++[(x,w,c)])) (c+1) (dK f x (some w)):=by
 have j:x∉l.map Xj:=fun e=>by
  obtain⟨⟨y,v,n⟩,a,rfl⟩:=List.mem_map.1 e
  have:=(b y v).2 ⟨n,a⟩
  grind
 refine⟨_,rfl,?_,?_,fun p a=>?_,fun y u=>?_⟩
 . grind
 . grind
 . grind
 . unfold dK
   grind
theorem em_app(l:List (Int×Value×Nat))(v:Value)(n:Nat):EM l++[(.int .i64 x,v,n)]=EM (l++[(x,v,n)]):=by unfold EM;grind
theorem dy.put(h:dy es c f)(v:Value): ∃es' c',(match aP (.int .i64 x) es with|none=>none|some (some _)=>some (iB (.int .i64 x) v es,c)|some none=>some (es++[(.int .i64 x,v,c)],c+1))=some (es',c')/\dy es' c' (dK f x (some v)):=by
 cases hf:f x with
 | none=>
   rw [h.miss hf]
   obtain⟨l,rfl,d,i,j,g⟩:=h
   exact⟨_,_,rfl,by rw [em_app];exact tB d i j g hf⟩
 | some w=>
   obtain⟨n,e⟩:=h.hit hf
   rw [e]
   obtain⟨l,rfl,d,i,j,g⟩:=h
   obtain⟨m,k⟩:=(g x w).1 hf
   obtain⟨a,b,rfl,o,_⟩:=rf d k
   exact⟨_,_,rfl,by rw [o];exact sY d i j g⟩
theorem del_miss{l:List (Int×Value×Nat)}(h:x∉l.map Xj):jk (.int .i64 x) (EM l)=EM l:=by
 induction l with
 |nil=>rfl
 | cons p l a=>
   obtain⟨y,w,m⟩:=p
   simp only [Xk,XG,not_or]at h
   grind[bH,jk,EM,rS,decide_eq_false]
theorem dy.del(h:dy es c f):dy (jk (.int .i64 x) es) c (dK f x none):=by
 obtain⟨l,rfl,d,o,g,i⟩:=h
 cases hf:f x with
 | none=>
   have q:x∉l.map Xj:=fun e=>by
    obtain⟨⟨y,v,n⟩,j,rfl⟩:=List.mem_map.1 e
    have:=(i y v).2 ⟨n,j⟩
    grind
   rw [del_miss q]
   refine⟨l,rfl,d,o,g,fun y u=>?_⟩
   unfold dK
   grind
 | some w=>
   obtain⟨m,e⟩:=(i x w).1 hf
   obtain⟨a,b,rfl,_,r⟩:=rf d e
   rw [r]
   have k:=d
   rw [fst_app,XR]at k
   obtain⟨t,s,z⟩:=k
   rw [Xz]at s
   refine⟨a++b,rfl,?_,?_,fun p j=>g p ?_,fun y u=>?_⟩
   . grind
   . grind
   . grind
   . unfold dK
     grind
theorem dy.ent(h:dy es c f)(z:Value): ∃d q n,(match aP (.int .i64 x) es with|none=>none|some (some (v,n))=>some (iB (.int .i64 x) v es,c,v,n)|some none=>some (es++[(.int .i64 x,z,c)],c+1,z,c))=some (d,q,(f x).getD z,n)/\dy d q (dK f x (some ((f x).getD z)))/\
 ∀w,∃es2,gV n w d=some es2/\dy es2 q (dK f x (some w)):=by
 cases hf:f x with
 | none=>
   rw [h.miss hf]
   obtain⟨l,rfl,g,i,o,j⟩:=h
   have k:=tB (w:=z) g i o j hf
   refine⟨_,_,_,rfl,by rw [em_app];exact k,fun w=>?_⟩
   rw [em_app]
   obtain⟨u,e,y,A,B,C⟩:=k
   have t:((l++(x,z,c)::[]).map fun p=>p.2.2).Nodup:=by
    grind
   exact⟨_,sC t,tB g i o j hf⟩
 | some v=>
   obtain⟨l,rfl,g,i,o,j⟩:=h
   obtain⟨m,r⟩:=(j x v).1 hf
   rw [zi g r]
   obtain⟨a,b,rfl,s,_⟩:=rf g r
   refine⟨_,_,_,rfl,by rw [s];exact sY g i o j,fun w=>?_⟩
   rw [s]
   exact⟨_,sC (by simpa using i),sY g i o j⟩
end

section
variable{M:Nat->Prop}{h0 h:Hp}{L:List (Nat×Ob)}{G:List GL}{E:Env}{t kt el:TypeId}{b c:Nat}{es:List (Value×Value×Nat)}{f:Int->Option Value}{x:Int}
theorem qS(a:E.und kt=some (.int .i64)):aV E kt (.int .i64 x)=true:=by simp only [aV,a];rfl
theorem qD(a:E.und t=some (.map kt el))(d:E.und kt=some (.int .i64)){z:Value}(g:E.zeroV el=some z)(i:h.get b=some (.map es c))(m:dy es c f):
 dc E h t (.map (some b)) (.int .i64 x) true=some (.tuple #[(f x).getD z,.bool (f x).isSome]):=by
 simp only [dc,a,qS d,cond_true,i]
 cases hf:f x with
 |none=>rw [m.miss hf];simp [g]
 |some v=>obtain⟨n,e⟩:=m.hit hf;rw [e];simp
theorem sg(a:E.und t=some (.map kt el))(d:E.und kt=some (.int .i64)){z:Value}(g:E.zeroV el=some z)(i:h.get b=some (.map es c))(m:dy es c f):
 dc E h t (.map (some b)) (.int .i64 x) false=some ((f x).getD z):=by
 simp only [dc,a,qS d,cond_true,i]
 cases hf:f x with
 |none=>rw [m.miss hf];simp [g]
 |some v=>obtain⟨n,e⟩:=m.hit hf;rw [e];simp
theorem nX{x:Blk}{es':List (Value×Value×Nat)}{c':Nat}(a:h.get b=some x):(h.put b (.map es' c')).get b=some (.map es' c'):=by rw [Hp.get_put,if_pos ⟨rfl,by rw [a];rfl⟩]
theorem St.mputI(S:St M h0 h L G){i:Nat}(d:L[i]? =some (b,.map es c))(g:E.und t=some (.map kt el))(j:E.und kt=some (.int .i64))(m:dy es c f)(v:Value):
 ∃a,dH E h t (.map (some b)) (.int .i64 x) v=some a/\Mo (· =b) h a/\ ∃es' c',dy es' c' (dK f x (some v))/\St M h0 a (L.set i (b,.map es' c')) G:=by
 have e:h.get b=some (.map es c):=(S.own _ (Xa d)).2
 obtain⟨es',c',l,k⟩:=m.put (x:=x) v
 refine⟨h.put b (.map es' c'),?_,(Mo.refl (M:=(· =b)) S.ok).put (.inr rfl) _,es',c',k,S.put d (o':=.map es' c') (nX e)⟩
 simp only [dH,iP,g,qS j,cond_true,e]
 grind
theorem St.mdelI(S:St M h0 h L G){i:Nat}(d:L[i]? =some (b,.map es c))(j:E.und t=some (.map kt el))(k:E.und kt=some (.int .i64))(m:dy es c f):
 ∃a,kI E h t (.map (some b)) (.int .i64 x)=some a/\Mo (· =b) h a/\ ∃es' c',dy es' c' (dK f x none)/\St M h0 a (L.set i (b,.map es' c')) G:=by
 have g:h.get b=some (.map es c):=(S.own _ (Xa d)).2
 refine⟨h.put b (.map (jk (.int .i64 x) es) c),?_,(Mo.refl (M:=(· =b)) S.ok).put (.inr rfl) _,_,c,m.del (x:=x),S.put d (o':=.map _ c) (nX g)⟩
 simp only [kI,iP,j,qS k,cond_true,g]
 cases hf:f x with
 |none=>rw [m.miss hf]
 |some v=>obtain⟨n,e⟩:=m.hit hf;rw [e]
theorem St.mentI(S:St M h0 h L G){i:Nat}(d:L[i]? =some (b,.map es c))(g:E.und t=some (.map kt el))(j:E.und kt=some (.int .i64)){z:Value}(k:E.zeroV el=some z)(m:dy es c f):
 ∃ a n,iT E h t (.map (some b)) (.int .i64 x)=some (a,.tuple #[(f x).getD z,.int .i64 (Yi n)])/\Mo (· =b) h a/\ ∃es' c',dy es' c' (dK f x (some ((f x).getD z)))/\St M h0 a (L.set i (b,.map es' c')) G/\
   ∀w,∃es2,gV n w es'=some es2/\dy es2 c' (dK f x (some w)):=by
 have e:h.get b=some (.map es c):=(S.own _ (Xa d)).2
 obtain⟨es',c',n,p,l,o⟩:=m.ent (x:=x) z
 refine⟨h.put b (.map es' c'),n,?_,(Mo.refl (M:=(· =b)) S.ok).put (.inr rfl) _,es',c',l,S.put d (o':=.map es' c') (nX e),o⟩
 simp only [iT,iP,g,qS j,cond_true,e,k]
 grind
theorem St.mstoreI(S:St M h0 h L G){i n:Nat}(d:L[i]? =some (b,.map es c)){w:Value}{es2:List (Value×Value×Nat)}(g:gV n w es=some es2):
 ∃a,kj h (.map (some b)) (.int .i64 (Yi n)) w=some a/\Mo (· =b) h a/\St M h0 a (L.set i (b,.map es2 c)) G:=by
 have e:h.get b=some (.map es c):=(S.own _ (Xa d)).2
 refine⟨h.put b (.map es2 c),?_,(Mo.refl (M:=(· =b)) S.ok).put (.inr rfl) _,S.put d (o':=.map es2 c) (nX e)⟩
 simp only [kj,e,eV,g]
end
end Go.Ab

end
section
namespace Go.Ab
def j7(x:Hd):List Value:=[.int .i64 x.id,.int .i64 x.key]
theorem jj(x:Hd):(j7 x).length=2:=rfl
structure dB(cs:List Value)(cap:Nat)(l:List Hd):Prop where
 len:cs.length=cap*2
 le:l.length<=cap
 at0: ∀i,i<l.length->cs[i*2]? =some (.int .i64 (l.getD i default).id)/\cs[i*2+1]? =some (.int .i64 (l.getD i default).key)
def jo(f:Int->Option Value)(l:List Hd):Prop:=(∀i,i<l.length->f (l.getD i default).id=some (.int .i64 i))/\ ∀x v,f x=some v-> ∃i,i<l.length/\x=(l.getD i default).id
section
variable{h:Hp}{bl cap i:Nat}{cs:List Value}{l:List Hd}{md:Nat}
theorem dB.ld0(c:dB cs cap l)(r:Row h bl cs md)(a:i<l.length):h.load bl (i*2) 1=some [.int .i64 (l.getD i default).id]:=r.load1 (c.at0 i a).1
theorem dB.ld1(c:dB cs cap l)(r:Row h bl cs md)(a:i<l.length):h.load bl (i*2+1) 1=some [.int .i64 (l.getD i default).key]:=r.load1 (c.at0 i a).2
theorem dB.ld2(c:dB cs cap l)(r:Row h bl cs md)(a:i<l.length):h.load bl (i*2) 2=some [.int .i64 (l.getD i default).id,.int .i64 (l.getD i default).key]:=by
 have d:=(c.at0 i a).1
 have b:=(c.at0 i a).2
 have e:=(List.getElem?_eq_some_iff.1 b).1
 rw [r.load (by omega)]
 grind[List.drop_eq_getElem_cons,List.getElem?_eq_some_iff]
theorem tH{x y:Value}(a:i*2+2<=cs.length)(j:Nat):(lay cs (i*2) [x,y])[j]? =if j=i*2 then some x else if j=i*2+1 then some y else cs[j]? :=by
 rw [iZ (by simpa using a)]
 grind
theorem dB.set(c:dB cs cap l)(d:i<l.length)(x:Hd):dB (lay cs (i*2) [.int .i64 x.id,.int .i64 x.key]) cap (l.set i x):=by
 have f:=c.len
 have hle:=c.le
 have a:i*2+2<=cs.length:=by omega
 refine⟨by grind[nP],by grind,fun j b=>?_⟩
 rw [Xi]at b
 rw [tH a,tH a,oZ]
 by_cases e:i=j
 . grind
 . rw [if_neg (by omega),if_neg (by omega),if_neg (by omega),if_neg (by omega),if_neg (by omega)]
   exact c.at0 j b
theorem dB.setKey(c:dB cs cap l)(a:i<l.length)(k:Int):dB (lay cs (i*2+1) [.int .i64 k]) cap (l.set i ⟨(l.getD i default).id,k⟩):=by
 have d:=c.len
 have hle:=c.le
 have e:lay cs (i*2+1) [.int .i64 k]=lay cs (i*2) [.int .i64 (l.getD i default).id,.int .i64 k]:=by
  refine XF fun j=>?_
  rw [tH (by omega),iZ (by simp;omega)]
  simp only [List.length_cons,List.length_nil]
  by_cases b:j=i*2
  . subst b;rw [if_neg (by omega),if_pos rfl];exact(c.at0 i a).1
  grind
 rw [e]
 exact c.set a ⟨(l.getD i default).id,k⟩
end
theorem set_sw(l:List Hd)(i k:Nat):(l.set i (l.getD k default)).set k (l.getD i default)=sw l i k:=rfl
theorem jo.inj{f:Int->Option Value}{l:List Hd}(h:jo f l){i j:Nat}(a:i<l.length)(b:j<l.length)(e:(l.getD i default).id=(l.getD j default).id):i=j:=by
 have c:=h.1 i a
 have d:=h.1 j b
 grind
theorem jo.swap{f:Int->Option Value}{l:List Hd}(h:jo f l){i k:Nat}(a:i<l.length)(c:k<l.length):
 jo (dK (dK f ((sw l i k).getD i default).id (some (.int .i64 i))) ((sw l i k).getD k default).id (some (.int .i64 k))) (sw l i k):=by
 have o:=ij l a c i
 have p:=ij l a c k
 rw [if_pos rfl]at p
 refine⟨fun j b=>?_,fun x v n=>?_⟩
 . rw [gk]at b
   have d:=ij l a c j
   unfold dK
   by_cases g:j=k
   . grind
   . rw [if_neg g]at d
     by_cases m:j=i
     . subst m
       rw [if_neg,if_pos rfl]
       rw [if_neg g,if_pos rfl]at o
       rw [o,p]
       intro e
       exact g (h.inj c a (by omega)).symm
     . rw [if_neg m]at d
       rw [if_neg,if_neg]
       . rw [d];exact h.1 j b
       . rw [d,o]
         intro e
         split at e
         . exact m (h.inj b a (by omega))
         . rename_i e3;rw [if_pos rfl]at e;exact g (h.inj b c (by omega))
       . rw [d,p]
         intro e
         exact m (h.inj b a (by omega))
 . unfold dK at n
   by_cases g:x=((sw l i k).getD k default).id
   . grind[gk]
   . rw [if_neg g]at n
     by_cases m:x=((sw l i k).getD i default).id
     . grind[gk]
     . rw [if_neg m]at n
       obtain⟨j,b,e⟩:=h.2 x v n
       refine⟨j,by rw [gk];exact b,?_⟩
       have d:=ij l a c j
       grind
structure eL(h:Hp)(bh bl bm cap:Nat)(n:Int)(l:List Hd):Prop where
 row:Row h bh [.slice (some ⟨bl,0,some 2⟩) l.length cap,.map (some bm),.int .i64 n] 1
 ex: ∃cs es c f,Row h bl cs 1/\h.get bm=some (.map es c)/\dB cs cap l/\dy es c f/\jo f l
 ne:bh≠bl/\bh≠bm/\bl≠bm
theorem eL.mo{M:Nat->Prop}{h k:Hp}{e i j cap:Nat}{n:Int}{l:List Hd}(r:eL h e i j cap n l)(g:Mo M h k)(p: ¬M e)(q: ¬M i)(s: ¬M j):eL k e i j cap n l:=by
 obtain⟨t,m,c,f,a,b,d⟩:=r.ex
 exact⟨g.has (o:=.row _ 1) r.row p,⟨t,m,c,f,g.has (o:=.row _ 1) a q,g.has (o:=.map m c) b s,d⟩,r.ne⟩
theorem eL.mo1{M:Nat->Prop}{h f:Hp}{a b d cap:Nat}{n:Int}{l:List Hd}(r:eL h a b d cap n l)(g:Mo M h f)(e: ∀c,c=a\/c=b\/c=d-> ¬M c):eL f a b d cap n l:=
 r.mo g (e _ (.inl rfl)) (e _ (.inr (.inl rfl))) (e _ (.inr (.inr rfl)))
theorem eL.lt{h:Hp}(e:h.t.Sized h.n){g i j cap:Nat}{n:Int}{l:List Hd}(r:eL h g i j cap n l): ∀c,c=g\/c=i\/c=j->c<h.n:=by
 obtain⟨k,m,c,f,a,b,d⟩:=r.ex
 rintro c (rfl|rfl|rfl)
 . exact r.row.lt e
 . exact a.lt e
 . exact fJ e b
theorem eL.gr{h a:Hp}{b c d cap:Nat}{n:Int}{l:List Hd}(r:eL h b c d cap n l)(g:Gr h a):eL a b c d cap n l:=r.mo (M:=NoM) g.fr (fun h=>h) (fun h=>h) (fun h=>h)
theorem St.init2{M:Nat->Prop}{h:Hp}(d:h.t.Sized h.n){a b:Nat}{o1 o2:Ob}(e:Has h a o1)(f:Has h b o2)(c:a≠b)(m1:M a)(m2:M b):St M h h [(a,o1),(b,o2)] []:=by
 refine⟨Mo.refl d,fun p g=>?_,fun _ h=>(by cases h),by simp [keys,c]⟩
 grind
theorem St.init3{M:Nat->Prop}{h:Hp}(d:h.t.Sized h.n){a b c:Nat}{o1 o2 o3:Ob}(i:Has h a o1)(j:Has h b o2)(k:Has h c o3)(e:a≠b)(f:a≠c)(g:b≠c)(m1:M a)(m2:M b)(m3:M c):St M h h [(a,o1),(b,o2),(c,o3)] []:=by
 refine⟨Mo.refl d,fun p l=>?_,fun _ h=>(by cases h),by simp [keys,e,f,g]⟩
 grind
end Go.Ab

end
section
namespace Go.Ab
open Go.Proofs
set_option maxRecDepth 10000
def Tryz.Fw:=aj t1<|aj t2<|aj t3<|aj t4<|aj t5<|aj t6<|aj Z1<|aj Z4<|t42
def Tryz.F0b:=aj t1<|aj t2<|aj t3<|aj t4<|aj t42<|aj t167<|aj t327<|aj Z9<|aj Z11<|t346
def Tryz.FV:=aj t1<|aj t2<|aj t3<|aj t167<|aj t327<|aj Z9<|aj Z11<|t346
def cmpI(a b:Int):Int:=if a<b then-1 else if b<a then 1 else 0
theorem y9{b:Hp}(c:b.t.Sized b.n){a:Int}:bC zB 250 [.int .i64 a] b (.bool false):=by
 have S:=Si c
 refine ac (n:=6) (rs:=[.tmp 2]) rfl Tryz.e250 rfl rfl rfl (lbt rfl) ?_
 simp only [BS,LB,ae,Nat.reduceLT,Nat.reduceEqDiff]
 exact S.gr
theorem nanI_ok{b:Hp}(c:b.t.Sized b.n){a:Int}:bC zB 251 [.int .i64 a] b (.bool false):=by
 have S:=Si c
 refine ac (n:=6) (rs:=[.tmp 2]) rfl Tryz.e251 rfl rfl rfl (lbt rfl) ?_
 simp only [BS,LB,ae,Nat.reduceLT,Nat.reduceEqDiff]
 exact S.gr
theorem cmp64_ok{c:Hp}(f:c.t.Sized c.n){a b:Int}:bC zB 246 [.int .i64 a,.int .i64 b] c (.int .i64 (cmpI a b)):=by
 have S:=Si f
 unfold cmpI
 refine ac (n:=20) (rs:=[.tmp 4]) rfl Tryz.e246 rfl rfl rfl (lbt rfl) ?_
 simp only [BS,LB,Nat.reduceLT,Nat.reduceEqDiff]
 refine al (y9 S.ok) ?_;intro h g;replace S:=S.call g;clear g
 simp only [BS,LB,Nat.reduceLT,Nat.reduceEqDiff]
 refine al (y9 S.ok) ?_;intro h g;replace S:=S.call g;clear g
 by_cases d:a<b
 . simp only [BS,LB,ae,Nat.reduceLT,Nat.reduceEqDiff,d]
   exact S.gr
 . by_cases e:b<a
   . simp only [BS,LB,ae,Nat.reduceLT,Nat.reduceEqDiff,d,e]
     exact S.gr
   . simp only [BS,LB,ae,Nat.reduceLT,Nat.reduceEqDiff,d,e]
     exact S.gr
theorem cmpInt_ok{c:Hp}(f:c.t.Sized c.n){a b:Int}:bC zB 247 [.int .i64 a,.int .i64 b] c (.int .i64 (cmpI a b)):=by
 have S:=Si f
 unfold cmpI
 refine ac (n:=20) (rs:=[.tmp 4]) rfl Tryz.e247 rfl rfl rfl (lbt rfl) ?_
 simp only [BS,LB,Nat.reduceLT,Nat.reduceEqDiff]
 refine al (nanI_ok S.ok) ?_;intro h g;replace S:=S.call g;clear g
 simp only [BS,LB,Nat.reduceLT,Nat.reduceEqDiff]
 refine al (nanI_ok S.ok) ?_;intro h g;replace S:=S.call g;clear g
 by_cases d:a<b
 . simp only [BS,LB,ae,Nat.reduceLT,Nat.reduceEqDiff,d]
   exact S.gr
 . by_cases e:b<a
   . simp only [BS,LB,ae,Nat.reduceLT,Nat.reduceEqDiff,d,e]
     exact S.gr
   . simp only [BS,LB,ae,Nat.reduceLT,Nat.reduceEqDiff,d,e]
     exact S.gr
theorem or2_ok{c:Hp}(q:c.t.Sized c.n){v:Value}{a b:Int}(h:au c 1 (encI .i64) v [a,b]):bC zB 245 [v] c (.int .i64 (if a=0 then b else a)):=by
 have S:=Si q
 obtain⟨j,k,r,f⟩:=h.ix (kd:=.i64) (aM .i64) (i:=0) (by simp)
 obtain⟨l,m,s,g⟩:=h.ix (kd:=.i64) (aM .i64) (i:=1) (by simp)
 have d:ig (some 1) v (.int .i64 0)=some (.pointer (some ⟨j,k,none⟩)):=r
 have e:ig (some 1) v (.int .i64 1)=some (.pointer (some ⟨l,m,none⟩)):=s
 replace f:c.load j k 1=some [.int .i64 a]:=f
 replace g:c.load l m 1=some [.int .i64 b]:=g
 have t:am .i64 1=1:=rfl
 have u:am .i64 2=2:=rfl
 refine ac (n:=18) (rs:=[.tmp 2]) rfl Tryz.e245 rfl rfl rfl (lbt rfl) ?_
 simp only [BS,LB,Nat.reduceLT,Nat.reduceEqDiff,Nat.reduceAdd,zO,Fw,h.lenq]
 rw [dg]
 by_cases o:a=0
 . simp only [BS,LB,Nat.reduceLT,Nat.reduceEqDiff,Int.reduceLT,Int.reduceAdd,Fw,d,f,o,t]
   rw [dg]
   by_cases p:b=0
   . simp only [BS,LB,Nat.reduceLT,Nat.reduceEqDiff,Int.reduceLT,Int.reduceAdd,Fw,e,g,p,u]
     rw [dg]
     simp only [BS,LB,ae,Nat.reduceLT,Nat.reduceEqDiff,Int.reduceLT]
     exact S.gr
   . simp only [BS,LB,ae,Nat.reduceLT,Nat.reduceEqDiff,Int.reduceLT,Fw,e,g,p]
     exact S.gr
 . simp only [BS,LB,ae,Nat.reduceLT,Nat.reduceEqDiff,Int.reduceLT,Fw,d,f,o]
   exact S.gr
theorem yK{r:Hp}(u:r.t.Sized r.n){v x D cap:Nat}{n:Int}{l:List Hd}(R:eL r v x D cap n l){i k:Nat}(s:i<l.length)(t:k<l.length):
 bC zB 241 [ptrTo v,.int .i64 i,.int .i64 k] r (.bool (decide (hlt (l.getD i default) (l.getD k default)))):=by
 have S:=Si u
 obtain⟨F,G,c,f,d,H,C,I,J⟩:=R.ex
 have a:=R.row.load1 (o:=0) rfl
 have e:=C.ld0 d s
 have j:=C.ld1 d s
 have m:=C.ld0 d t
 have p:=C.ld1 d t
 refine ac (n:=44) (rs:=[.tmp 6]) rfl Tryz.e241 rfl rfl rfl (lbt rfl) ?_
 simp only [BS]
 refine ar (ay rfl) (q:=17179869184) (ps:=[(16,32),(16,28),(16,24),(16,20)]) (by kernel_rfl) ?_
 simp only [BS,LB,cls,Nat.reduceLT,Nat.reduceEqDiff,Nat.reduceAdd,Nat.reducePow,Nat.reduceDiv,Nat.reduceMod,Nat.reduceLeDiff,F0b,a,s,t,j,p]
 refine fP (cmp64_ok S.ok) ?_
 intro h g;replace S:=S.call g
 replace a:=g.load a;replace e:=g.load e;replace j:=g.load j;replace m:=g.load m;replace p:=g.load p
 have y:leaves _ _ x=true:=aK g (d.lt u)
 have z:leaves _ _ v=true:=aK g (R.row.lt u)
 clear g
 simp only [BS,LB,cls,Nat.reduceLT,Nat.reduceEqDiff,Nat.reduceAdd,Nat.reducePow,Nat.reduceDiv,Nat.reduceMod,Nat.reduceLeDiff,F0b,a,s,t,e,m]
 refine fP (cmpInt_ok S.ok) ?_
 intro K g;replace S:=S.call g
 replace a:=g.load a;replace e:=g.load e;replace j:=g.load j;replace m:=g.load m;replace p:=g.load p
 clear g
 simp only [BS,LB,cls,Nat.reduceLT,Nat.reduceEqDiff,Nat.reduceAdd,Nat.reducePow,Nat.reduceDiv,Nat.reduceMod,Nat.reduceLeDiff]
 refine fe (bj (by exact Tryz.t42.1) (by exact Yn) (by decide) (by rfl)) S ?_;clear S;intro h w S A B;simp only [LC,aR,bo,ah,Nat.reduceMul,Nat.reduceAdd,Xt,Xo,Xn,XN]at S
 simp only [BS,LB,cls,Nat.reduceLT,Nat.reduceEqDiff,Nat.reduceAdd,Nat.reducePow,Nat.reduceDiv,Nat.reduceMod,Nat.reduceLeDiff]
 have E:au h 1 (encI .i64) (.slice (some ⟨w,0,none⟩) 2 2) [cmpI (l.getD i default).key (l.getD k default).key,cmpI (l.getD i default).id (l.getD k default).id]:=.inr ⟨w,0,none,2,rfl,Xh _,S.lds (b:=w) (o:=0) (n:=2*1) m0 (lbt rfl)⟩
 refine fP (or2_ok S.ok E) ?_
 intro L g;replace S:=S.call g;clear g
 simp only [BS,LB,cls,ae,Nat.reduceLT,Nat.reduceEqDiff,Nat.reduceAdd,Nat.reducePow,Nat.reduceDiv,Nat.reduceMod,Nat.reduceLeDiff]
 refine⟨by simp only [bQ,bW,bE,cd,bM,ne_eq,not_false_eq_true,ce,cB,bO,bN,cy,dr,bK,Nat.reduceLT,Nat.reduceEqDiff,reduceIte,XP,ab,bJ y,bJ z,aQ y,aQ z],?_⟩
 have e3:decide ((if cmpI (l.getD i default).key (l.getD k default).key=0 then cmpI (l.getD i default).id (l.getD k default).id else cmpI (l.getD i default).key (l.getD k default).key)<0)=decide (hlt (l.getD i default) (l.getD k default)):=by
  congr 1
  rw [eq_iff_iff]
  unfold cmpI hlt
  repeat' split
  all_goals omega
 exact⟨by rw [e3],S.gr⟩
theorem sa{r:Hp}(ok:r.t.Sized r.n){A g j cap:Nat}{n:Int}{l:List Hd}(R:eL r A g j cap n l){i k:Nat}(y:i<l.length)(s:k<l.length):
 Ret zB 229 [ptrTo A,.int .i64 i,.int .i64 k] r fun v d=>Mo (fun c=>c=g\/c=j) r d/\eL d A g j cap n (sw l i k):=by
 obtain⟨Z,es,c,f,H,hm,C,MI,IF⟩:=R.ex
 have S:=St.init2 (M:=fun c=>c=g\/c=j) ok (o1:=.row Z 1) (o2:=.map es c) H hm R.ne.2.2 (.inl rfl) (.inr rfl)
 have G: ¬(A=g\/A=j):=fun h=>h.elim R.ne.1 R.ne.2.1
 have I:=R.row.load1 (o:=0) rfl
 have r1:=R.row.load1 (o:=1) rfl
 have i2:=C.ld2 H y
 have k2:=C.ld2 H s
 have ad:=C.len
 have af:=C.le
 refine ac (n:=62) (rs:=[]) rfl Tryz.e229 rfl rfl rfl (lbt rfl) ?_
 simp only [BS]
 refine ar (ay rfl) (q:=0) (ps:=[]) (by kernel_rfl) ?_
 simp only [BS,LB,cls,Nat.reduceLT,Nat.reduceEqDiff,Nat.reduceAdd,Nat.reducePow,Nat.reduceDiv,Nat.reduceMod,Nat.reduceLeDiff,FV,I,y,s,i2,k2]
 refine ep (S.store (i:=0) rfl Tryz.t335.2.1 (by intro x e;cases e) rfl rfl (by omega) ono) ?_
 clear S;rintro h ⟨S,t⟩;clear t
 have J:=C.set y (l.getD k default)
 simp only [LC,ah]at S
 have m:=S.old I G
 simp only [BS,LB,cls,Nat.reduceLT,Nat.reduceEqDiff,Nat.reduceAdd,Nat.reducePow,Nat.reduceDiv,Nat.reduceMod,Nat.reduceLeDiff,FV,s]
 generalize lay Z (i*2) _=K at S J
 have aL:=J.len
 refine ep (S.store (i:=0) (off:=k*2) rfl Tryz.t335.2.1 (by intro x e;cases e) rfl rfl (by omega) ono) ?_
 clear S;rintro h ⟨S,t⟩;clear t
 have B:=J.set (i:=k) (by rw [Xi];exact s) (l.getD i default)
 simp only [LC,ah]at S
 generalize lay K (k*2) _=u at S B
 rw [set_sw]at B
 clear m
 have m:=S.old I G
 have D:=S.old r1 G
 have L:i<(sw l i k).length:=by rw [gk];exact y
 have N:k<(sw l i k).length:=by rw [gk];exact s
 have ai:=B.ld0 (S.row m0) L
 have ak:=B.ld0 (S.row m0) N
 simp only [BS,LB,Nat.reduceAdd]
 refine ar (ay rfl) (q:=0) (ps:=[]) (by kernel_rfl) ?_
 simp only [BS,LB,cls,Nat.reduceLT,Nat.reduceEqDiff,Nat.reduceAdd,Nat.reducePow,Nat.reduceDiv,Nat.reduceMod,Nat.reduceLeDiff,FV,m,D,y,s,ai,ak]
 refine kJ (P:=fun d v=> ∃n a p,v=.tuple #[(f ((sw l i k).getD i default).id).getD (.int .i64 0),.int .i64 (Yi n)]/\St (fun c=>c=g\/c=j) r d [(g,.row u 1),(j,.map a p)] []/\ ∀w,∃b,gV n w a=some b/\dy b p (dK f ((sw l i k).getD i default).id (some w))) ?_ ?_
 . obtain⟨d,n,O,_,a,p,_,Q,T⟩:=S.mentI (i:=1) (x:=(((sw l i k).getD i default).id:Int)) rfl Tryz.t167.1 Tryz.t3.1 (z:=.int .i64 0) (by kernel_rfl) MI
   exact⟨d,_,O,n,a,p,rfl,Q,T⟩
 clear S ai ak m D
 rintro h v ⟨s1,a0,c1,rfl,S,U⟩
 obtain⟨b,V,W⟩:=U (.int .i64 i)
 simp only [BS,LB,cls,Nat.reduceLT,Nat.reduceEqDiff,Nat.reduceAdd,Nat.reducePow,Nat.reduceDiv,Nat.reduceMod,Nat.reduceLeDiff,X8]
 refine ep (S.mstoreI (i:=1) rfl V) ?_
 clear S;rintro h ⟨t,S⟩;clear t
 simp only [LC]at S
 simp only [BS,LB,cls,Nat.reduceLT,Nat.reduceEqDiff,Nat.reduceAdd,Nat.reducePow,Nat.reduceDiv,Nat.reduceMod,Nat.reduceLeDiff]
 refine kJ (P:=fun d v=> ∃n a p,v=.tuple #[(dK f ((sw l i k).getD i default).id (some (.int .i64 i)) ((sw l i k).getD k default).id).getD (.int .i64 0),.int .i64 (Yi n)]/\St (fun c=>c=g\/c=j) r d [(g,.row u 1),(j,.map a p)] []/\ ∀w,∃b,gV n w a=some b/\dy b p (dK (dK f ((sw l i k).getD i default).id (some (.int .i64 i))) ((sw l i k).getD k default).id (some w))) ?_ ?_
 . obtain⟨d,n,O,_,a,p,_,Q,T⟩:=S.mentI (i:=1) (x:=(((sw l i k).getD k default).id:Int)) rfl Tryz.t167.1 Tryz.t3.1 (z:=.int .i64 0) (by kernel_rfl) W
   exact⟨d,_,O,n,a,p,rfl,Q,T⟩
 clear S
 rintro h v ⟨s2,a1,c3,rfl,S,E⟩
 obtain⟨X,F,Y⟩:=E (.int .i64 k)
 simp only [BS,LB,cls,Nat.reduceLT,Nat.reduceEqDiff,Nat.reduceAdd,Nat.reducePow,Nat.reduceDiv,Nat.reduceMod,Nat.reduceLeDiff,X8]
 refine ep (S.mstoreI (i:=1) rfl F) ?_
 clear S;rintro h ⟨t,S⟩;clear t
 simp only [LC]at S
 simp only [BS,LB,Nat.reduceAdd]
 refine⟨S.fr,?_,⟨u,X,c3,_,S.row m0,(S.own _ m1).2,B,Y,IF.swap y s⟩,R.ne⟩
 rw [gk]
 exact S.fr.has (o:=.row _ 1) R.row G
theorem up_ok{b:Hp}(w:b.t.Sized b.n){d e j cap:Nat}{n:Int}{l:List Hd}(R:eL b d e j cap n l){i:Nat}(s:i<l.length)(z:l.length<1000000)(U:qy l i):
 Ret zB 227 [ptrTo d,.int .i64 i] b fun v t=>Mo (fun c=>c=e\/c=j) b t/\ ∃l',eL t d e j cap n l'/\l'.Perm l/\kH l':=by
 refine ac (n:=23) (rs:=[]) rfl Tryz.e227 rfl rfl rfl (lbt rfl) ?_
 simp only [BS]
 refine aD (fun(i:Nat) o h=>i<l.length/\Mo (fun c=>c=e\/c=j) b h/\ ∃l',eL h d e j cap n l'/\l'.Perm l/\qy l' i/\o 0=ptrTo d/\o 1=.int .i64 i) (fun i=>i) ?_ i _ _ ?_
 . intro i x o h ⟨s,a,l',R,pm,U,r0,r1⟩
   have u:=pm.length_eq
   by_cases p:i=0
   . subst p
     simp only [BS,LB,Nat.reduceLT,Nat.reduceEqDiff,Int.reduceLT,zO,r1]
     exact⟨a,l',R,pm,up_done U (.inl rfl)⟩
   . have y:(0:Int)<(i:Int):=by omega
     have q:am .i64 ((i:Int)-1)=((i-1:Nat):Int):=by rw [wrap64]<;>omega
     have r:am .i64 (((i-1:Nat):Int).tdiv 4)=(((i-1)/4:Nat):Int):=by
      rw [Xx (by omega),show(((i-1:Nat):Int)/4)=(((i-1)/4:Nat):Int) by omega,wrap64]<;>omega
     simp only [BS,LB,Nat.reduceLT,Nat.reduceEqDiff,r0,r1,y,q,r,jC (n:=4) (by decide)]
     refine al (yK a.ok R (i:=i) (k:=(i-1)/4) (by omega) (by omega)) ?_
     intro h g;replace R:=R.gr g;replace a:=a.trans (M':=NoM) g.fr (fun _ h=>h.elim);clear g
     by_cases m:hlt (l'.getD i default) (l'.getD ((i-1)/4) default)
     . simp only [BS,LB,Nat.reduceLT,Nat.reduceEqDiff,r0,r1,q,r,jC (n:=4) (by decide),m]
       refine step_ret (sa a.ok R (i:=i) (k:=(i-1)/4) (by omega) (by omega)) ?_
       rintro v h ⟨f,R⟩
       replace a:=a.trans f (fun _ h=>.inl h)
       simp only [BS,LB,Nat.reduceLT,Nat.reduceEqDiff,r1,q,r,jC (n:=4) (by decide)]
       exact x ((i-1)/4) _ _ (by omega) ⟨by omega,a,_,R,(rX l' (by omega) (by omega)).trans pm,up_step (by omega) U (by omega) m,by simp [aa,r0,ab],by simp [aa]⟩
     . simp only [BS,LB,Nat.reduceLT,Nat.reduceEqDiff,jC (n:=4) (by decide),m]
       exact⟨a,l',R,pm,up_done U (.inr (tW m))⟩
 . exact⟨s,Mo.refl w,l,R,.refl _,U,by simp [aB,ab],by simp [aB,aY]⟩
def Tryz.FI:=aj t1<|aj t2<|aj t3<|aj t4<|aj t167<|aj t168<|aj t327<|aj Z9<|aj Z11<|t346
def Tryz.Fe:=aj t1<|aj t2<|aj t3<|aj t4<|aj t5<|aj t6<|aj Z1<|aj Z4<|aj t9<|aj t12<|aj Z7<|aj t152<|aj t167<|aj t313<|aj t327<|aj Z9<|t346
theorem St.monoM{M:Nat->Prop}{c h:Hp}{L:List (Nat×Ob)}{G:List GL}(S:St NoM c h L G):St M c h L G:=
 ⟨S.fr.mono (fun _ h=>h.elim),fun p a=>⟨(S.own p a).1.imp (fun h=>h) (fun h=>h.elim),(S.own p a).2⟩,fun p a=>⟨(S.gown p a).1,fun b d=>((S.gown p a).2 b d).imp (fun h=>h) (fun h=>h.elim)⟩,S.apart⟩
theorem below_ok{a:Hp}(j:a.t.Sized a.n){g i:Nat}:Ret zB 242 [ptrTo g,.int .i64 i] a fun v f=>Gr a f/\ ∃b c,v=.func (.func 248) #[] #[ptrTo b,ptrTo c]/\a.n<=b/\a.n<=c/\f.load b 0 1=some [.int .i64 i]/\f.load c 0 1=some [ptrTo g]:=by
 have S:=Si j
 refine ac (n:=6) (rs:=[.tmp 4]) rfl Tryz.e242 rfl rfl rfl (lbt rfl) ?_
 simp only [BS,Nat.reduceLT]
 refine ag (cL (by exact dh)) S ?_;clear S;intro h c S d
 simp only [BS,Nat.reduceLT,Nat.reduceEqDiff,if_false]
 refine ag (cL (by exact bZ)) S ?_;clear S;intro h b S e
 simp only [BS,LB,ae,Nat.reduceLT,Nat.reduceEqDiff]
 exact⟨S.gr,b,c,rfl,e,d,S.ld m0 rfl,S.ld m1 rfl⟩
theorem Au{d:Hp}(b:d.t.Sized d.n){f g o i n cap:Nat}{t:Addr}(k:d.load f 0 1=some [.int .i64 i])(u:d.load g 0 1=some [ptrTo o])(C:d.load o 0 1=some [.slice (some t) n cap])(L:n<1000000)(M:i<1000000):
 Iter zB 248 [] [ptrTo f,ptrTo g] d (fun c=>c=f\/c=g\/c=o) ((Xm (min 4 (n-(4*i+1)))).map fun j=>[.int .i64 ((4*i+1+j:Nat):Int)]):=by
 refine si fun D J Z Y h F s p=>?_
 refine enter (n:=28) (rs:=[]) rfl Tryz.e248 rfl rfl rfl (lbt rfl) ?_
 have e:=s.load b k (.inl rfl)
 have q:am .i64 (4*(i:Int))=((4*i:Nat):Int):=by rw [wrap64]<;>omega
 have E:am .i64 (((4*i:Nat):Int)+1)=((4*i+1:Nat):Int):=by rw [wrap64]<;>omega
 have x:am .i64 (((4*i:Nat):Int)+4)=((4*i+4:Nat):Int):=by rw [wrap64]<;>omega
 simp only [BS,LB,Nat.reduceLT,Nat.reduceEqDiff,FI,e,q,E]
 refine aD (fun(j:Nat) l h=>j<=min 4 (n-(4*i+1))/\ ∃F,ItS d (fun c=>c=f\/c=g\/c=o) h F/\J j h F/\l 0=.func (.yield D) #[] #[]/\l 1=ptrTo f/\l 2=ptrTo g/\l 4=.int .i64 ((4*i+1+j:Nat):Int)) (fun j=>min 4 (n-(4*i+1))-j) ?_ 0 _ _ ?_
 . clear e
   intro j G l h ⟨hjm,F,s,p,r0,r1,r2,r4⟩
   have e:=s.load b k (.inl rfl)
   have z:=s.load b u (.inr (.inl rfl))
   have A:=s.load b C (.inr (.inr rfl))
   by_cases hlt:j<min 4 (n-(4*i+1))
   . have r:((4*i+1+j:Nat):Int)<=((4*i+4:Nat):Int):=by omega
     have y:4*i+1+j<n:=by omega
     have w:am .i64 (((4*i+1+j:Nat):Int)+1)=((4*i+1+(j+1):Nat):Int):=by rw [wrap64]<;>omega
     simp only [BS,LB,Nat.reduceLT,Nat.reduceEqDiff,FI,r0,r1,r2,r4,e,z,A,q,x,r,y,aq]
     refine eU Y s p (i:=j) (by rw [XS,Yc hlt];rfl) ?_ ?_ ?_
     . intro B H a I _ _
       simp only [BS,LB,Nat.reduceLT,Nat.reduceEqDiff,r4,w]
       exact G (j+1) _ _ (by omega) ⟨by omega,H,I,a,by simp [aa,r0],by simp [aa,r1,ab],by simp [aa,r2,ab],by simp [aa]⟩
     . intro B a _
       simp only [BS,LB,Nat.reduceLT,Nat.reduceEqDiff]
       exact gy rfl ⟨rfl,.inr (.inl ⟨_,rfl,a⟩)⟩
     . intro v B a
       simp only [BS]
       exact jg (dV ⟨rfl,.inr (.inr ⟨_,rfl,a⟩)⟩)
   . have K:j=min 4 (n-(4*i+1)):=by omega
     have m:YQ J Z (min 4 (n-(4*i+1))) (.ret (ae [])) none h:=⟨rfl,.inl ⟨_,F,rfl,by rw [<-K];exact p⟩⟩
     by_cases r:((4*i+1+j:Nat):Int)<=((4*i+4:Nat):Int)
     . have y: ¬4*i+1+j<n:=by omega
       simp only [BS,LB,Nat.reduceLT,Nat.reduceEqDiff,FI,r1,r2,r4,e,z,A,q,x,r,y,aq]
       exact dZ (dV ⟨rfl,_,rfl,by simpa using m⟩)
     . simp only [BS,LB,Nat.reduceLT,Nat.reduceEqDiff,FI,r1,r4,e,q,x,r]
       exact dZ (dV ⟨rfl,_,rfl,by simpa using m⟩)
 . exact⟨by omega,F,s,p,by simp [aa,cD],by simp [aa,cD,ab],by simp [aa,cD,ab],by simp [aa]⟩
theorem down_ok {z:Hp} (ok:z.t.Sized z.n) {u A C cap:Nat} {n:Int} {l:List Hd} (R:eL z u A C cap n l) {i:Nat} (E:i<l.length\/(l=[]/\i=0)) (hl:l.length<100000) (D:rI l i):
 Ret zB 230 [ptrTo u,.int .i64 i] z fun v K=>Mo (fun c=>c=A\/c=C) z K/\ ∃l',eL K u A C cap n l'/\l'.Perm l/\kH l':=by
 have lt:=R.lt ok
 have S:=Si ok
 have O: ∀{L:List (Nat×Ob)},(∀c∈keys L [],z.n<=c)-> ∀c,c=u\/c=A\/c=C-> ¬c∈keys L []:=fun I c s hm=>by have:=lt c s;have:=I c hm;omega
 refine ac (n:=27) (rs:=[]) rfl Tryz.e230 rfl rfl rfl (lbt rfl) ?_
 simp only [BS,LB,Nat.reduceLT,Fe]
 refine ag aw S ?_;clear S;intro h J S U
 simp only [BS,LB,Nat.reduceLT,Nat.reduceEqDiff]
 refine ax (av S (i:=0) rfl ?_ ?_ ?_ ono) ?_
 . exact(by simp only [Fe])
 . exact(by exact gD)
 . exact Xl (lbt rfl)
 clear S;rintro h ⟨S,V⟩;clear V;simp only [LC,ah,lay,Xq,Xr,Nat.reduceAdd]at S
 simp only [BS]
 have RR:=R.gr S.gr
 replace S:=S.monoM (M:=fun c=>c=A\/c=C)
 refine pk (fun(i:Nat) ρ d h=> ∃(r:List Nat) (l':List Hd),d=r.map pD/\St (fun c=>c=A\/c=C) z h (cR r++[(J,.row [.func (.func 241) #[ptrTo u] #[]] 1)]) []/\(∀c∈keys (cR r++[(J,Ob.row [.func (.func 241) #[ptrTo u] #[]] 1)]) [],z.n<=c)/\
  eL h u A C cap n l'/\l'.Perm l/\rI l' i/\(i<l.length\/(l=[]/\i=0))/\ρ 0=ptrTo u/\ρ 1=.int .i64 i/\ρ 4=ptrTo J) (fun i=>l.length-i) ?_ i _ _ _ ?_
 . clear S RR R D E i
   intro i ih ρ d hS ⟨r,l',hd,S0,I,R,pm,D,E,r0,r1,r4⟩
   have a3:=pm.length_eq
   have ai:i<1000000:=by rcases E with E|⟨_,E⟩<;>omega
   have S:=S0.base
   have Rs:=R
   have n0:z.n<=hS.n:=S0.fr.n
   simp only [BS,Nat.reduceLT,Fe,r1]
   refine ag aw S ?_;clear S;intro h w S W
   simp only [BS,LB,Nat.reduceLT,Nat.reduceEqDiff]
   refine ax (av S (i:=0) rfl ?_ ?_ ?_ ono) ?_
   . exact(by simp only [Fe])
   . exact(by exact bZ)
   . exact Xl (lbt rfl)
   clear S;rintro h ⟨S,V⟩;clear V;simp only [LC,ah,lay,Xq,Xr,Nat.reduceAdd]at S
   simp only [BS,LB,Nat.reduceLT,Nat.reduceEqDiff,r0,r1]
   have gq:=S.fr.n
   have a4:=S.key_lt (b:=w) (by simp [keys])
   refine step_ret (below_ok S.ok) ?_;intro v h ⟨g,b1,b2,e,n1,n2,q1,q2⟩;replace S:=S.call g;clear g
   subst e
   simp only [BS]
   replace R:=R.mo1 S.fr (O I)
   have gh:=S.fr.n
   refine jv S (g:=248) (a:=#[]) (b:=#[ptrTo b1,ptrTo b2]) (by simp [cy,aa,ab]) rfl rfl ?_
   intro h2 G P Y a5 a6 g2
   have kb: ∀c∈keys (cR r++[(J,Ob.row [.func (.func 241) #[ptrTo u] #[]] 1)]) [],c<b1/\c<b2:=fun c s=>by have:=S0.key_lt s;have:=W;omega
   generalize hB:cR r++[(J,Ob.row [.func (.func 241) #[ptrTo u] #[]] 1)]=B at S Y S0 I kb
   have mf:(J,Ob.row [.func (.func 241) #[ptrTo u] #[]] 1)∈B:=by rw [<-hB];exact List.mem_append_right _ m0
   obtain⟨X,hX,Y⟩: ∃X:fG,X=_/\St (· ∈keys B []) hS h2 ((P,.loop X)::(G,.dfr)::(w,.row [.int .i64 (i:Nat)] 1)::B) []:=⟨_,rfl,Y⟩
   have R2:=R.gr g2
   have ch: ∀j,j<min 4 (l'.length-(4*i+1))->4*i+1+j<l'.length/\(4*i+1+j-1)/4=i:=fun j hj=>⟨by omega,by omega⟩
   have hY:Yld zB P (fun j K F=> ∃m:Nat,St (· ∈keys B []) hS K ((P,.loop X)::(G,.dfr)::(w,.row [.int .i64 (m:Nat)] 1)::B) []/\F=keys ((P,.loop X)::(G,.dfr)::(w,.row [.int .i64 (m:Nat)] 1)::B) []/\
    (m<l'.length\/(l'=[]/\m=i))/\hle (l'.getD m default) (l'.getD i default)/\(∀q,q<j->hle (l'.getD m default) (l'.getD (4*i+1+q) default))/\(m=i\/(0<m/\(m-1)/4=i/\hlt (l'.getD m default) (l'.getD i default)))) (fun _ _=>False) ((Xm (min 4 (l'.length-(4*i+1)))).map fun j=>[.int .i64 ((4*i+1+j:Nat):Int)]):=by
    refine⟨?_,?_,fun _ _ h=>h.elim,?_⟩
    . rintro j h F ⟨m,S,rfl,_⟩;exact⟨S.ok,fun b t=>S.key_lt t⟩
    . rintro j h F K ⟨m,S,rfl,k⟩ g;exact⟨m,S.call g,rfl,k⟩
    . rintro j x h F hx ⟨m,S,rfl,H,k2,Z,k4⟩
      have ad:j<min 4 (l'.length-(4*i+1)):=by
       have:=(List.getElem?_eq_some_iff.1 hx).1
       simpa using this
      rw [XS,Yc ad]at hx
      cases hx
      obtain⟨c1,c2⟩:=ch j ad
      replace H:=H.resolve_right (by intro e;rw [e.1]at c1;simp at c1)
      obtain⟨X0,ak⟩: ∃x,x=X:=⟨_,rfl⟩
      subst hX
      refine jx (S.get m0) (by rw [Tryz.e230];rfl) rfl ?_
      have S1:=S
      replace S:=S.base
      simp only [BS,LB,Nat.reduceLT,Nat.reduceEqDiff]
      refine iK S (i:=0) rfl rfl rfl rfl rfl ?_
      clear S;intro h S
      simp only [LC]at S
      have lf:h.load J 0 1=some [.func (.func 241) #[ptrTo u] #[]]:=S.ld (o:=0) (.tail _ (.tail _ (.tail _ mf))) rfl
      simp only [BS,LB,Nat.reduceLT,Nat.reduceEqDiff,Fe,r4,lf,S.ld (b:=w) (o:=0) m2 rfl]
      have aL: ∀c∈keys ((P,Ob.loop X0)::(G,.dfr)::(w,.row [.int .i64 (m:Nat)] 1)::B) [],z.n<=c:=fun c s=>(S1.key_own s).elim (fun h=>by omega) (fun h=>I c h)
      clear ak
      have Rc:eL h u A C cap n l':=(Rs.mo1 S1.fr (O I)).mo1 S.fr (O aL)
      refine al (yK S.ok Rc c1 H) ?_
      intro h g;replace S:=S.call g;clear g Rc lf
      by_cases Q:hlt (l'.getD (4*i+1+j) default) (l'.getD m default)
      . simp only [BS,LB,Nat.reduceLT,Nat.reduceEqDiff,Q]
        refine ax (av S (i:=2) rfl ?_ ?_ ?_ ono) ?_
        . exact(by simp only [Fe])
        . exact(by exact bZ)
        . exact Xl (lbt rfl)
        clear S;rintro h ⟨S,V⟩;clear V;simp only [LC,ah,lay,Xq,Xr,Nat.reduceAdd]at S
        simp only [BS]
        refine eZ S (i:=0) rfl ?_
        clear S;intro h S
        simp only [LC]at S
        refine .inl ⟨rfl,_,⟨4*i+1+j,S1.rebase S,rfl,.inl c1,jm (qU Q) k2,fun q hq=>?_,.inr ⟨by omega,c2,?_⟩⟩,S.fr,S.key_new⟩
        . by_cases e:q=j
          . subst e;exact tE _
          . exact jm (qU Q) (Z q (by omega))
        . rcases k4 with rfl|⟨_,_,k4⟩
          . exact Q
          . unfold hlt at*;omega
      . simp only [BS,LB,Nat.reduceLT,Nat.reduceEqDiff,Q]
        refine eZ S (i:=0) rfl ?_
        clear S;intro h S
        simp only [LC]at S
        refine .inl ⟨rfl,_,⟨m,S1.rebase S,rfl,.inl H,k2,fun q hq=>?_,k4⟩,S.fr,S.key_new⟩
        by_cases e:q=j
        . subst e;exact tW Q
        . exact Z q (by omega)
   refine gL (yW (Au S.ok q1 q2 (R.row.load1 (o:=0) rfl) (by omega) ai) hY (h:=h2) (F:=keys ((P,.loop X)::(G,.dfr)::(w,.row [.int .i64 (i:Nat)] 1)::B) []) g2.fr (fun b t hlt=>?_) ⟨i,Y,rfl,?_,tE _,fun q hq=>by omega,.inl rfl⟩) fun o rc K y=>kC y ?_
   . have e1:=Y.key_own t
     rintro(rfl|rfl|rfl)
     . rcases List.mem_cons.1 t with e|t
       . omega
       . rcases List.mem_cons.1 t with e|t
         . omega
         . rcases List.mem_cons.1 t with e|t
           . simp only []at e;omega
           . have:=(kb _ t).1;omega
     . rcases List.mem_cons.1 t with e|t
       . omega
       . rcases List.mem_cons.1 t with e|t
         . omega
         . rcases List.mem_cons.1 t with e|t
           . simp only []at e;omega
           . have:=(kb _ t).2;omega
     . have:=lt b (.inl rfl)
       rcases e1 with e1|e1
       . omega
       . have:=I b e1;omega
   . rcases E with E|⟨E,_⟩
     . exact .inl (by omega)
     . right;rw [E]at pm;exact⟨pm.eq_nil,rfl⟩
   . rintro F ⟨m,T,rfl,H,k2,Z,k4⟩
     rw [List.length_map,XT]at Z
     subst hX
     refine⟨_,T.get m0,Nat.zero_ne_one,?_⟩
     replace T:=T.dead
     show Run _ _ _ _ _ _ _ _
     have p:=T.ld (b:=w) (o:=0) m1 rfl
     have Rc:eL _ u A C cap n l':=Rs.mo1 T.fr (O I)
     have km: ∀q,0<q->q<l'.length->(q-1)/4=i->hle (l'.getD m default) (l'.getD q default):=fun q q0 ql qe=>by
      have:=Z (q-(4*i+1)) (by omega)
      rwa [show 4*i+1+(q-(4*i+1))=q by omega]at this
     have T0:=S0.rebase T
     have af: ∀c∈keys ((G,Ob.dfr)::(w,.row [.int .i64 (m:Nat)] 1)::B) [],z.n<=c:=fun c s=>(T.key_own s).elim (fun h=>by omega) (fun h=>I c h)
     subst hd hB
     have T2:=T0.sub (L':=cR (G::r)++[(J,Ob.row [.func (.func 241) #[ptrTo u] #[]] 1)]) (G':=[]) (List.Sublist.cons_cons _ (List.sublist_cons_self _ _)) (List.Sublist.refl _)
     have N: ∀c∈keys (cR (G::r)++[(J,Ob.row [.func (.func 241) #[ptrTo u] #[]] 1)]) [],z.n<=c:=fun c s=>af c (by simp only [keys,XO,XA,cR,Xk,XW,XG]at s⊢;rcases s with h|h;exact .inl h;exact .inr (.inr h))
     by_cases e:m=i
     . subst e
       simp only [BS,LB,Nat.reduceLT,Nat.reduceEqDiff,Fe,r1,p]
       have T3:=T2.base
       refine gP (ku (G::r) _ T3 fun K T4=>⟨rfl,_,rfl,?_⟩)
       refine⟨(T2.fr.trans T4.fr fun c s=>(T2.key_own s).symm),l',Rc.mo1 T4.fr (O N),pm,dn_done D km⟩
     . have e': ¬((m:Int)=(i:Int)):=by omega
       obtain⟨b0,be,a0⟩:=k4.resolve_left e
       replace H:=H.resolve_right (fun h=>e h.2)
       simp only [BS,LB,Nat.reduceLT,Nat.reduceEqDiff,Fe,r0,r1,p,e']
       refine step_ret (sa T2.ok Rc (i:=i) (k:=m) (by omega) H) ?_
       rintro v h ⟨f,Rn⟩
       have a1:=O N
       have T3:=T2.step f (fun c s=>.inl s) (fun c s hM=>a1 c (.inr hM) s)
       have f2:Mo (fun c=>c=A\/c=C) _ h:=f
       have a2:h.load w 0 1=some [.int .i64 (m:Nat)]:=by
        have a7:z.n<=w:=af w (.tail _ m0)
        have:=f.get w (ct f.ok0 p) (fun hM=>by have:=lt w (.inr hM);omega)
        unfold Hp.load at p⊢
        rw [this];exact p
       simp only [BS,LB,Nat.reduceLT,Nat.reduceEqDiff,Fe,a2]
       exact ih m _ _ _ (by omega) ⟨G::r,_,rfl,T3,N,Rn,(rX l' (by omega) H).trans pm,dn_step D b0 H be a0 km,.inl (by omega),by simp [aa,r0,ab],by simp [aa],by simp [aa,r4,ab]⟩
 . exact⟨[],l,rfl,S,fun c s=>by simp [keys,cR]at s;subst s;exact U,RR,.refl _,D,E,by simp [aa,aB,ab],by simp [aa,aB,aY],by simp [aa,ab]⟩
end Go.Ab
end
section
namespace Go.Ab
theorem jo.push{f:Int->Option Value}{l:List Hd}(h:jo f l){x:Hd}(c:x.id∉l.map Hd.id):jo (dK f x.id (some (.int .i64 l.length))) (l++[x]):=by
 refine⟨fun i b=>?_,fun y v a=>?_⟩
 . unfold dK
   simp at b
   by_cases e:i=l.length
   . grind
   . rw [lV l _ (by omega),if_neg ?_]
     . exact h.1 i (by omega)
     grind
 . unfold dK at a
   by_cases e:y=x.id
   . refine⟨l.length,by simp,?_⟩
     grind
   . rw [if_neg e]at a
     obtain⟨i,b,d⟩:=h.2 y v a
     exact⟨i,by simp;omega,by grind⟩
theorem jo.cut{f:Int->Option Value}{l:List Hd}(h:jo f l){m:Nat}(c:l.length=m+1):jo (dK f (l.getD m default).id none) (l.take m):=by
 refine⟨fun i b=>?_,fun y v a=>?_⟩
 . rw [Xp]at b
   rw [getD_take l (by omega)]
   unfold dK
   rw [if_neg ?_]
   . exact h.1 i (by omega)
   . intro e
     have:=h.inj (i:=i) (j:=m) (by omega) (by omega) (by omega)
     omega
 . unfold dK at a
   by_cases e:y=(l.getD m default).id
   . grind
   . rw [if_neg e]at a
     obtain⟨i,b,d⟩:=h.2 y v a
     have:i≠m:=fun e3=>by grind
     exact⟨i,by grind,by grind⟩
theorem jo.setKey{f:Int->Option Value}{l:List Hd}(h:jo f l){i:Nat}(k:Int):jo f (l.set i ⟨(l.getD i default).id,k⟩):=by
 have e: ∀j,((l.set i ⟨(l.getD i default).id,k⟩).getD j default).id=(l.getD j default).id:=fun j=>by
  grind
 refine⟨fun j a=>?_,fun y v b=>?_⟩
 . rw [e];exact h.1 j (by grind)
 . obtain⟨j,a,c⟩:=h.2 y v b
   grind
theorem idxF_nil:jo (fun _=>none) []:=⟨fun i a=>by simp at a,fun x v h=>by cases h⟩
theorem dB.take{cs:List Value}{cap:Nat}{l:List Hd}(c:dB cs cap l)(m:Nat):dB cs cap (l.take m):=
 ⟨c.len,Xe (by grind) c.le,fun i a=>by
  rw [Xp]at a
  rw [getD_take l (by omega)]
  exact c.at0 i (by omega)⟩
theorem dB.push{cs a:List Value}{cap cap':Nat}{l:List Hd}(c:dB cs cap l){x:Hd}(d:a.length=cap'*2)(g:l.length<cap')(b: ∀j,j<l.length*2->a[j]? =cs[j]?)(h:a[l.length*2]? =some (.int .i64 x.id)/\a[l.length*2+1]? =some (.int .i64 x.key)):dB a cap' (l++[x]):=by
 refine⟨d,by simp;omega,fun i f=>?_⟩
 simp at f
 by_cases e:i=l.length
 . grind
 . rw [lV l _ (by omega),b _ (by omega),b _ (by omega)]
   exact c.at0 i (by omega)
theorem slice_hi{E:Env}{t e:TypeId}{b k len cap n:Nat}{kd:IntKind}(c:E.und t=some (.slice e))(d:E.sz e=some k)(f:n<=cap):eQ E t (.slice (some ⟨b,0,some k⟩) len cap) none (some (.int kd (n:Int))) none=some (.slice (some ⟨b,0,some k⟩) n cap):=by
 have a: ∀n:Nat,eV (n:Int)=some n:=fun n=>rfl
 simp_all[eQ,eI,eG,Xb,cond_true,Xc,cond_false,Yj]
section
variable{M:Nat->Prop}{h0 h:Hp}{L:List (Nat×Ob)}{G:List GL}{E:Env}{t tx e:TypeId}{by_:Nat}{zs:List Value}
theorem St.appH{d cap:Nat}{cs:List Value}{l:List Hd}(S:St M h0 h ((d,.row cs 1)::L) G)(C:dB cs cap l)(H:E.und t=some (.slice e))(I:dE E e by_ 2 zs)(R:0<by_)(J:by_<=100)(r:dz E tx=some false){x:Hd}{z:Value}(f:aI h 2 z=some (1,j7 x))(U:l.length<1000000){ts:List TypeId}:
 ∃A w,cS E h (t::tx::ts) (.slice (some ⟨d,0,some 2⟩) l.length cap) z=some (A,w)/\ ∃a cap' g,w=.slice (some ⟨a,0,some 2⟩) (l.length+1) cap'/\St M h0 A ((a,.row g 1)::L) G/\dB g cap' (l++[x])/\(a=d\/h.n<=a):=by
 obtain⟨⟨i,K,rfl,c⟩,N,s⟩:=I
 have B:Row h d cs 1:=S.row m0
 have D:=C.len
 by_cases V:l.length+1<=cap
 . obtain⟨y,W,O⟩:=B.store S.ok ono (o:=l.length*2) (vs:=j7 x) (by rw [jj];omega) rfl
   refine⟨h.put d y,_,?_,d,cap,_,rfl,S.put (i:=0) rfl O,?_,.inl rfl⟩
   . simp_all[cS,iX,eH,Xb,cond_true,j7,Xo]
   . refine C.push (by grind[nP,jj]) (by omega) (fun j P=>?_) ⟨?_,?_⟩
     . rw [iZ (by rw [jj];omega),if_neg (by omega)]
     . rw [iZ (by rw [jj];omega),if_pos ⟨Xh _,by rw [jj];omega⟩,Yk];rfl
     . rw [iZ (by rw [jj];omega),if_pos ⟨by omega,by rw [jj];omega⟩,Nat.add_sub_cancel_left];rfl
 . have F:cap=l.length:=by have:=C.le;omega
   obtain⟨q,el,k,m,Q⟩:=B
   have u:iU q cs.length 0 (l.length*2) (j7 x)=some (q.pushAll cs.length (j7 x),cs.length+2):=by
    unfold iU
    rw [show l.length*2=cs.length by omega,Yh,Yh];rfl
   have T:=S.dead.new (x:=.cells (q.pushAll cs.length (j7 x)) (cs.length+2) e 1) (o:=.row (cs++j7 x) 1) (by
    refine⟨q.pushAll cs.length (j7 x),e,?_,?_,fun n=>?_⟩
    . rw [Hp.get_new _ _ S.dead.ok,if_pos rfl,XB];rfl
    . rw [XB];exact Tr.sized_pushAll _ m
    grind[Tr.get_pushAll])
   refine⟨_,.slice (some ⟨h.n,0,some 2⟩) (l.length+1) (l.length+1),?_,h.n,l.length+1,_,rfl,T,?_,.inr (Xh _)⟩
   . simp only [cS,r,iX,H,K,c,f]
     unfold eH
     have p:XM (l.length+1) cap=false:=by
      cases r:XM (l.length+1) cap with
      |false=>rfl
      |true=>exact absurd (lbt r) (by omega)
     rw [p]
     simp only [cond_false]
     have b:(XM ((l.length+1)*(i.bytes+1)) 70368744177664&&XV 0 i.bytes)=true:=by
      have:(l.length+1)*(i.bytes+1)<=1000000*101:=X6 (by omega) (by omega)
      rw [Xb (by omega)]
      simp_all
     have v:XH zs.length i.size=true:=by rw [s,c];rfl
     rw [b,N]
     simp only [cond_true,v]
     unfold l6
     simp only [k,c,u]
     rfl
   . refine C.push (by rw [XB,jj];omega) (by omega) (fun j P=>?_) ⟨?_,?_⟩
     . grind
     . rw [Xy (by omega),show l.length*2-cs.length=0 by omega];rfl
     . rw [Xy (by omega),show l.length*2+1-cs.length=1 by omega];rfl
theorem St.appH0(S:St M h0 h L G)(p:E.und t=some (.slice e))(q:dE E e by_ 2 zs)(v:0<by_)(r:by_<=100)(s:dz E tx=some false){x:Hd}{m:Value}(d:aI h 2 m=some (1,j7 x)){ts:List TypeId}:
 ∃n w,cS E h (t::tx::ts) (.slice none 0 0) m=some (n,w)/\ ∃b cap' f,w=.slice (some ⟨b,0,some 2⟩) 1 cap'/\St M h0 n ((b,.row f 1)::L) G/\dB f cap' [x]/\h.n<=b:=by
 obtain⟨⟨i,j,rfl,c⟩,u,k⟩:=q
 have T:=S.new (x:=.cells (Tr.ofList (j7 x)) 2 e 1) (o:=.row (j7 x) 1) (oy S.ok (j7 x) e 1)
 refine⟨_,.slice (some ⟨h.n,0,some 2⟩) 1 1,?_,h.n,1,_,rfl,T,⟨rfl,by simp,fun i j=>?_⟩,Xh _⟩
 . simp only [cS,s,iX,p,j,c,d]
   unfold eH
   have g:XM (0+1) 0=false:=rfl
   rw [g]
   simp only [cond_false]
   have a:(XM ((0+1)*(i.bytes+1)) 70368744177664&&XV 0 i.bytes)=true:=by
    rw [Xb (by omega)]
    simp_all
   have l:XH zs.length i.size=true:=by rw [k,c];rfl
   rw [a,u]
   simp only [cond_true,l]
   unfold l6
   rw [show XH 0 0=true from rfl,c]
   rfl
 . have:i=0:=by simpa using j
   subst this;exact⟨rfl,rfl⟩
theorem St.rowS{i b d n cap c:Nat}{N:Int}{cs:List Value}{g:List (Value×Value×Nat)}{l:List Hd}{f:Int->Option Value}(S:St M h0 h [(b,.row cs 1),(i,.row [.slice (some ⟨b,0,some 2⟩) n cap,.map (some d),.int .i64 N] 1),(d,.map g c)] [])(C:dB cs cap l)(j:n=l.length)(k:dy g c f)(m:jo f l):eL h i b d cap N l:=by
 subst j
 have a:=S.apart
 simp only [keys,Xk,Yl,XO,XA,Xz,XG,List.not_mem_nil,or_false,not_or]at a
 exact⟨S.row m1,⟨cs,g,c,f,S.row m0,(S.own _ m2).2,C,k,m⟩,fun e=>a.1.1 e.symm,a.2.1,a.1.2⟩
end
theorem uP{ρ:Operand->Value}{b:Bool}{t:TypeId}{a v:Operand}{h c:Hp}:cj ρ b (.store t a v) h c=(match ρ a with| .pointer (some a)=>some (.blk a.block)|_=>none):=by
 simp only [cj,du,iS,ef,touch,cond_false]
 grind
theorem yw{ρ:Operand->Value}{b:Bool}{x:Operand}{ts:Array TypeId}{h c:Hp}:cj ρ b (.call ⟨.builtin .len,#[x],ts⟩) h c=(match ρ x with| .map (some r)=>some (.blk r)| .slice (some a) _ _=>some (.blk a.block)|_=>none):=by
 simp only [cj,du,iS,ef,touch,cond_false]
 grind
theorem dn_del{E:Env}{cx:Cx}{Q:ez}{a:List Oper}{q:Nat}{ps:List (Nat×Nat)}{o:Oper}{os:List Oper}{i:Nat}{k:List Fr}{l:Loc}{d:Hp->List (Nat×Tch)}{h:Hp}{t:TypeId}{m c:Value}{P:Hp->Prop}(f: ∃b,kI E h t m c=some b/\P b)
 (g: ∀b,P b->Run E (lim E) cx Q (.opsD a q ps os (i+1) (d b)::k) .normal (l.put o.dst (.tuple #[])) b):DN E cx Q a q ps o os i k l d (delR E h t m c):=by
 obtain⟨b,e,j⟩:=f
 unfold delR
 rw [e]
 exact g b j
structure dC(h:Hp)(F:List Nat)(p:Value)(N:Nat)(K:Nat->Option Int):Prop where
 ex: ∃bh bm l,p=ptrTo bh/\kH l/\gp l K/\(∀x∈l,x.id<N)/\
  ((l=[]/\F=[bh,bm]/\bh≠bm/\Row h bh [.slice none 0 0,.map (some bm),.int .i64 N] 1/\ ∃es c,h.get bm=some (.map es c)/\dy es c (fun _=>none))\/ ∃bl cap,F=[bh,bl,bm]/\eL h bh bl bm cap N l)
theorem dC.mo{M:Nat->Prop}{h i:Hp}{F:List Nat}{p:Value}{N:Nat}{K:Nat->Option Int}(a:dC h F p N K)(g:Mo M h i)(d: ∀b∈F,¬M b):dC i F p N K:=by
 obtain⟨m,n,l,e,q,r,s,t⟩:=a.ex
 refine⟨m,n,l,e,q,r,s,?_⟩
 rcases t with⟨u,rfl,v,w,j,c,x,y⟩|⟨z,f,rfl,k⟩
 . exact .inl ⟨u,rfl,v,g.has (o:=.row _ 1) w (d _ (by simp)),j,c,g.has (o:=.map j c) x (d _ (by simp)),y⟩
 . exact .inr ⟨z,f,rfl,k.mo g (d _ (by simp)) (d _ (by simp)) (d _ (by simp))⟩
theorem dC.gr{h b:Hp}{F:List Nat}{p:Value}{N:Nat}{K:Nat->Option Int}(a:dC h F p N K)(g:Gr h b):dC b F p N K:=a.mo (M:=NoM) g.fr (fun _ _ h=>h)
theorem dC.lt{h:Hp}(f:h.t.Sized h.n){F:List Nat}{p:Value}{N:Nat}{K:Nat->Option Int}(a:dC h F p N K): ∀b∈F,b<h.n:=by
 obtain⟨n,o,l,e,q,r,s,g⟩:=a.ex
 rcases g with⟨t,rfl,u,i,v,c,j,w⟩|⟨x,m,rfl,k⟩
 . intro b d
   simp at d
   rcases d with rfl|rfl
   . exact i.lt f
   . exact fJ f j
 . intro b d
   simp at d
   exact k.lt f b d
theorem s7{l:List Hd}{K:Nat->Option Int}(h:gp l K){N:Nat}(a: ∀x∈l,x.id<N):l.length<=N:=by
 have:=sV N (l.map Hd.id) h.1 (fun x b=>by grind)
 simpa using this
end Go.Ab

end
section
namespace Go.Ab
open Go.Proofs
set_option maxRecDepth 10000
def Tryz.F0N:=aj t1<|aj t3<|aj t167<|aj t281<|aj t327<|aj Z9<|aj Z14<|Z11
def Tryz.F0O:=aj t1<|aj t2<|aj t3<|aj t4<|aj t167<|aj t281<|aj t327<|aj Z9<|aj Z14<|Z11
def Tryz.F0c:=aj t1<|aj t2<|aj t3<|aj t4<|aj t5<|aj t6<|aj t167<|aj t281<|aj t327<|aj Z9<|aj Z14<|Z11
def Tryz.Fb:=aj t1<|aj t2<|aj t3<|aj t4<|aj t5<|aj t6<|aj Z1<|aj Z4<|aj t9<|aj t51<|aj t167<|aj t281<|aj t327<|aj Z9<|aj Z14<|Z11
def Tryz.F0d:=aj t1<|aj t2<|aj t3<|aj t4<|aj t5<|aj t6<|aj Z1<|aj Z4<|aj t9<|aj t10<|aj t11<|aj t12<|aj t51<|aj t167<|aj t281<|aj t327<|aj Z9<|aj Z14<|Z11
theorem AF{a:Hp}(m:a.t.Sized a.n){N:Nat}:Ret zB 197 [.int .i64 N] a fun v g=>Gr a g/\ ∃F,dC g F v N (fun _=>none)/\ ∀b∈F,a.n<=b:=by
 have S:=Si m
 have o:max (N:Int) 0=(N:Int):=by omega
 refine ac (n:=9) (rs:=[.tmp 2]) rfl Tryz.e197 rfl rfl rfl (lbt rfl) ?_
 simp only [BS]
 refine ag rM S ?_;clear S;intro h i S d
 simp only [BS,LB,Nat.reduceLT,Nat.reduceEqDiff,Nat.reduceAdd,Nat.reduceLeDiff,F0N,o]
 refine ag (bR (by intro x e;cases e)) S ?_;clear S;intro h b S f;simp only [ah]at S
 simp only [BS,LB,ae,Nat.reduceLT,Nat.reduceEqDiff]
 have k:=S.apart
 simp only [keys,Xk,Yl,XO,XA,Xz,XG,List.not_mem_nil,or_false]at k
 refine⟨S.gr,[b,i],⟨b,i,[],rfl,fun j _ p=>(by simp at p),cont_nil,fun x q=>(by cases q),.inl ⟨rfl,rfl,k.1,S.row m0,[],0,(S.own _ m1).2,tD⟩⟩,fun c l=>?_⟩
 simp at l
 rcases l with rfl|rfl
 . exact f
 . exact d
section
variable{h0:Hp}{F:List Nat}{p:Value}{N:Nat}{K:Nat->Option Int}
theorem uQ(f:h0.t.Sized h0.n)(H:dC h0 F p N K): ∃m:Nat,bC zB 228 [p] h0 (.int .i64 m)/\(m=0↔ ∀v,K v=none):=by
 obtain⟨g,q,l,rfl,r,d,s,h⟩:=H.ex
 refine⟨l.length,?_,?_⟩
 . have S:=Si f
   obtain⟨a,n,c,m1,m2,b,i⟩: ∃a n c m1 m2,Row h0 g [.slice a n c,m1,m2] 1/\n=l.length:=by
    rcases h with⟨rfl,_,_,b,_⟩|⟨t,j,_,b⟩
    . exact⟨_,_,_,_,_,b,rfl⟩
    . exact⟨_,_,_,_,_,b.row,rfl⟩
   subst i
   have k:=b.load1 (o:=0) rfl
   refine ac (n:=11) (rs:=[.tmp 2]) rfl Tryz.e228 rfl rfl rfl (lbt rfl) ?_
   simp only [BS,LB,ae,Nat.reduceLT,Nat.reduceEqDiff,F0O,k]
   exact S.gr
 . constructor
   . intro e
     rw [List.length_eq_zero_iff.1 e]at d
     exact d.nil
   . intro e
     cases l with
     |nil=>rfl
     | cons x l=>
       have:=(d.2 x.id x.key).2 (by simp)
       rw [e]at this;cases this
theorem AD (y:h0.t.Sized h0.n) (H:dC h0 F p N K) {v:Nat}:bC zB 232 [p,.int .i64 v] h0 (.tuple #[.int .i64 ((K v).getD 0),.bool (K v).isSome]):=by
 have S:=Si y
 obtain⟨m,a,A⟩:=uQ y H
 obtain⟨O,P,l,rfl,Q,r,T,I⟩:=H.ex
 by_cases b:m=0
 . subst b
   have e:=A.1 rfl v
   rw [e]
   refine ac (n:=32) (rs:=[.tmp 4,.tmp 5]) rfl Tryz.e232 rfl rfl rfl (lbt rfl) ?_
   simp only [BS,LB,Nat.reduceLT,Nat.reduceEqDiff]
   refine al (a) ?_;intro h g;replace S:=S.call g;clear g
   simp only [BS,LB,ae,Nat.reduceLT,Nat.reduceEqDiff,zO]
   exact⟨rfl,S.gr⟩
 . have d: ¬((m:Int)=0):=by omega
   rcases I with⟨rfl,_⟩|⟨U,J,_,R⟩
   . exact absurd (A.2 r.nil) b
   . refine ac (n:=32) (rs:=[.tmp 4,.tmp 5]) rfl Tryz.e232 rfl rfl rfl (lbt rfl) ?_
     simp only [BS,LB,Nat.reduceLT,Nat.reduceEqDiff]
     refine al (a) ?_;intro h g;replace S:=S.call g;replace R:=R.gr g;clear g
     obtain⟨V,W,c,f,s,t,C,L,B⟩:=R.ex
     have M:=R.row.load1 (o:=0) rfl
     have D:=R.row.load1 (o:=1) rfl
     have q:=qD (x:=(v:Int)) Tryz.t167.1 Tryz.t3.1 (z:=.int .i64 0) (by kernel_rfl) t L
     cases E:K v with
     | none=>
       have u:f v=none:=by
        cases hf:f v with
        |none=>rfl
        | some w=>
          obtain⟨i,j,e⟩:=B.2 v w hf
          have:=r.at j
          rw [show(l.getD i default).id=v by omega,E]at this;cases this
       rw [u]at q
       simp only [BS,LB,ae,Nat.reduceLT,Nat.reduceEqDiff,F0c,d,D,q,Xv,Xc]
       exact S.gr
     | some k=>
       obtain⟨i,j,e⟩:=r.idx E
       have u:f v=some (.int .i64 i):=by have:=B.1 i j;rwa [e]at this
       rw [u]at q
       have G:=C.ld1 s j
       rw [e]at G
       simp only [BS,LB,ae,Nat.reduceLT,Nat.reduceEqDiff,F0c,d,M,D,q,Xw,j,G]
       exact S.gr
theorem sI(ok:h0.t.Sized h0.n)(H:dC h0 F p N K){v:Nat}(hv:v<N)(hN:N<=1000)(P:K v=none){k:Int}:
 Ret zB 200 [p,.int .i64 v,.int .i64 k] h0 fun r h'=>Mo (· ∈F) h0 h'/\ ∃F',dC h' F' p N (d9 K v (some k))/\ ∀b∈F',b∈F\/h0.n<=b:=by
 obtain⟨a,s,l,rfl,ho,m,hlt,D⟩:=H.ex
 have af:=s7 m hlt
 have c1: ¬((v:Int)<0):=by omega
 have c2: ¬((N:Int)<=(v:Int)):=by omega
 have hn:=m.free P
 rcases D with⟨rfl,rfl,T,hr,U,c,g,E⟩|⟨G,u,rfl,R⟩
 . have S:=St.init2 (M:=(· ∈[a,s])) ok (o1:=.row _ 1) (o2:=.map U c) hr g T (by simp) (by simp)
   have Q:=qD (x:=(v:Int)) Tryz.t167.1 Tryz.t3.1 (z:=.int .i64 0) (by kernel_rfl) g E
   refine ac (n:=71) (rs:=[.tmp 6]) rfl Tryz.e200 rfl rfl rfl (lbt rfl) ?_
   simp only [BS,LB,Nat.reduceLT,Nat.reduceEqDiff,Fb,Q,c1,c2,Xv,Xc,S.ld (b:=a) (o:=1) m0 rfl,S.ld (b:=a) (o:=2) m0 rfl]
   refine ar (ay rfl) (q:=0) (ps:=[]) (by kernel_rfl) ?_
   simp only [BS,LB,cls,Nat.reduceLT,Nat.reduceEqDiff,Nat.reduceAdd,Nat.reducePow,Nat.reduceDiv,Nat.reduceMod,Nat.reduceLeDiff,zO,Fb,S.ld (b:=a) (o:=0) m0 rfl,S.ld (b:=a) (o:=1) m0 rfl]
   refine ep (S.mputI (i:=1) rfl Tryz.t167.1 Tryz.t3.1 E _) ?_
   clear S;rintro h ⟨_,V,c',y,S⟩
   simp only [LC]at S
   simp only [BS,LB,Nat.reduceLT,Nat.reduceEqDiff,Nat.reduceAdd,Fb,S.ld (b:=a) (o:=0) m0 rfl,S.ld (b:=a) (o:=1) m0 rfl]
   refine ag (bj (by exact Tryz.t327.1) (by exact X9) (by decide) (by rfl)) S ?_;clear S;intro h I S J;simp only [LC,aR,bo,ah,Nat.reduceMul,Nat.reduceAdd,Xt,Xo,Xn,XN]at S
   simp only [BS,LB,Nat.reduceLT,Nat.reduceEqDiff,S.ld (b:=a) (o:=0) m1 rfl,S.ld (b:=a) (o:=1) m1 rfl]
   have j:aI h 2 (.slice (some ⟨I,0,none⟩) 1 1)=some (1,j7 ⟨v,k⟩):=by simp only [aI];rw [S.lds (b:=I) (o:=0) (n:=1*2) m0 (lbt rfl)];rfl
   replace S:=S.drop1
   refine dX (S.appH0 Tryz.t327.1 X9 (by decide) (by decide) Tryz.t327.2.2.2.2.2 j) ?_
   clear S j;rintro h w ⟨G,u,cs,rfl,S,C,W⟩
   simp only [BS,LB,Nat.reduceLT,Nat.reduceEqDiff,Fb]
   refine ax (av S (i:=1) rfl ?_ ?_ ?_ ono) ?_
   . exact(by simp only [Fb])
   . exact(by exact bU)
   . exact Xl (lbt rfl)
   clear S;rintro h ⟨S,X⟩;clear X;simp only [LC,ah,lay,Xq,Xr,Nat.reduceAdd]at S
   simp only [BS]
   refine ar (ay rfl) (q:=0) (ps:=[]) (by kernel_rfl) ?_
   simp only [BS,LB,cls,Nat.reduceLT,Nat.reduceEqDiff,Nat.reduceAdd,Nat.reducePow,Nat.reduceDiv,Nat.reduceMod,Nat.reduceLeDiff,Int.reduceSub,zO,Fb,S.ld (b:=a) (o:=0) m1 rfl,S.ld (b:=a) (o:=1) m1 rfl]
   have R:eL h a G s u N ([]++[⟨v,k⟩]):=S.rowS C rfl y (idxF_nil.push hn)
   have Y:am .i64 0=((0:Nat):Int):=rfl
   rw [Y]
   refine c6 (up_ok S.ok R (i:=0) (by simp) (by simp) (v7 ho ⟨v,k⟩)) ?_
   have d:=(S.own _ m0).1
   rintro r h ⟨f,Z,R',L,A⟩
   simp only [BS,LB,Nat.reduceLT,Nat.reduceAdd,zO]
   refine⟨S.fr.trans f (fun c m=>?_),[a,G,s],⟨a,s,Z,rfl,A,(m.push P k).perm L,fun x D=>?_,.inr ⟨G,u,rfl,R'⟩⟩,fun b O=>?_⟩
   . rcases m with rfl|rfl
     . exact d.symm
     . exact .inl (by simp)
   . have:=L.mem_iff.1 D
     simp at this;subst this;exact hv
   . simp at O
     rcases O with rfl|rfl|rfl
     . exact .inl (by simp)
     . exact d.symm
     . exact .inl (by simp)
 . obtain⟨cs,U,c,f,ad,g,C,E,IF⟩:=R.ex
   have S:=St.init3 (M:=(· ∈[a,G,s])) ok (o1:=.row cs 1) (o2:=.row _ 1) (o3:=.map U c) ad R.row g R.ne.1.symm R.ne.2.2 R.ne.2.1 (by simp) (by simp) (by simp)
   have Q:=qD (x:=(v:Int)) Tryz.t167.1 Tryz.t3.1 (z:=.int .i64 0) (by kernel_rfl) g E
   have fv:f v=none:=by
    cases hf:f v with
    |none=>rfl
    | some w=>
      obtain⟨i,hi,e⟩:=IF.2 v w hf
      have:=m.at hi
      rw [show(l.getD i default).id=v by omega,P]at this;cases this
   rw [fv]at Q
   refine ac (n:=71) (rs:=[.tmp 6]) rfl Tryz.e200 rfl rfl rfl (lbt rfl) ?_
   simp only [BS,LB,Nat.reduceLT,Nat.reduceEqDiff,Fb,Q,c1,c2,Xv,Xc,S.ld (b:=a) (o:=1) m1 rfl,S.ld (b:=a) (o:=2) m1 rfl]
   refine ar (ay rfl) (q:=0) (ps:=[]) (by kernel_rfl) ?_
   simp only [BS,LB,cls,Nat.reduceLT,Nat.reduceEqDiff,Nat.reduceAdd,Nat.reducePow,Nat.reduceDiv,Nat.reduceMod,Nat.reduceLeDiff,Fb,S.ld (b:=a) (o:=0) m1 rfl,S.ld (b:=a) (o:=1) m1 rfl]
   refine ep (S.mputI (i:=2) rfl Tryz.t167.1 Tryz.t3.1 E _) ?_
   clear S;rintro h ⟨_,V,c',y,S⟩
   simp only [LC]at S
   simp only [BS,LB,Nat.reduceLT,Nat.reduceEqDiff,Nat.reduceAdd,Fb,S.ld (b:=a) (o:=0) m1 rfl,S.ld (b:=a) (o:=1) m1 rfl]
   refine ag (bj (by exact Tryz.t327.1) (by exact X9) (by decide) (by rfl)) S ?_;clear S;intro h I S J;simp only [LC,aR,bo,ah,Nat.reduceMul,Nat.reduceAdd,Xt,Xo,Xn,XN]at S
   simp only [BS,LB,Nat.reduceLT,Nat.reduceEqDiff,S.ld (b:=a) (o:=0) m2 rfl,S.ld (b:=a) (o:=1) m2 rfl]
   have j:aI h 2 (.slice (some ⟨I,0,none⟩) 1 1)=some (1,j7 ⟨v,k⟩):=by simp only [aI];rw [S.lds (b:=I) (o:=0) (n:=1*2) m0 (lbt rfl)];rfl
   replace S:=S.drop1
   refine dX (S.appH C Tryz.t327.1 X9 (by decide) (by decide) Tryz.t327.2.2.2.2.2 j (by omega)) ?_
   clear S j;rintro h w ⟨B,t,ai,rfl,S,C',W⟩
   simp only [BS,LB,Nat.reduceLT,Nat.reduceEqDiff,Fb]
   refine ax (av S (i:=1) rfl ?_ ?_ ?_ ono) ?_
   . exact(by simp only [Fb])
   . exact(by exact bU)
   . exact Xl (lbt rfl)
   clear S;rintro h ⟨S,X⟩;clear X;simp only [LC,ah,lay,Xq,Xr,Nat.reduceAdd]at S
   simp only [BS]
   refine ar (ay rfl) (q:=0) (ps:=[]) (by kernel_rfl) ?_
   have Y:am .i64 (((l.length+1:Nat):Int)-1)=((l.length:Nat):Int):=by rw [wrap64]<;>omega
   simp only [BS,LB,cls,Nat.reduceLT,Nat.reduceEqDiff,Nat.reduceAdd,Nat.reducePow,Nat.reduceDiv,Nat.reduceMod,Nat.reduceLeDiff,Fb,Y,S.ld (b:=a) (o:=0) m1 rfl,S.ld (b:=a) (o:=1) m1 rfl]
   have R:eL h a B s t N (l++[⟨v,k⟩]):=S.rowS C' (by simp) y (IF.push hn)
   refine c6 (up_ok S.ok R (i:=l.length) (by simp) (by simp;omega) (v7 ho ⟨v,k⟩)) ?_
   have d:=(S.own _ m0).1
   rintro r h ⟨f,Z,R',L,A⟩
   simp only [BS,LB,Nat.reduceLT,Nat.reduceAdd]
   refine⟨S.fr.trans f (fun c m=>?_),[a,B,s],⟨a,s,Z,rfl,A,(m.push P k).perm L,fun x D=>?_,.inr ⟨B,t,rfl,R'⟩⟩,fun b O=>?_⟩
   . rcases m with rfl|rfl
     . exact d.symm
     . exact .inl (by simp)
   . have:=L.mem_iff.1 D
     simp at this
     rcases this with h|rfl
     . exact hlt x h
     . exact hv
   . simp at O
     rcases O with rfl|rfl|rfl
     . exact .inl (by simp)
     . exact d.symm
     . exact .inl (by simp)
theorem yi(U:h0.t.Sized h0.n)(H:dC h0 F p N K){v:Nat}(hN:N<=1000){t k:Int}(V:K v=some t)(hle:k<=t):
 Ret zB 233 [p,.int .i64 v,.int .i64 k] h0 fun r G=>Mo (· ∈F) h0 G/\dC G F p N (d9 K v (some k)):=by
 obtain⟨d,w,l,rfl,W,g,hlt,y⟩:=H.ex
 have X:=s7 g hlt
 obtain⟨i,a,u⟩:=g.idx V
 have Y:v<N:=by
  have:=hlt (l.getD i default) (by rw [XQ,XX a];exact XY a)
  rwa [u]at this
 have Z: ¬((v:Int)<0):=by omega
 have c2: ¬((N:Int)<=(v:Int)):=by omega
 have c3: ¬(t<k):=by omega
 rcases y with⟨rfl,_⟩|⟨A,j,rfl,R⟩
 . simp at a
 . obtain⟨I,es,c,f,m,q,C,J,L⟩:=R.ex
   have S:=St.init3 (M:=(· ∈[d,A,w])) U (o1:=.row I 1) (o2:=.row _ 1) (o3:=.map es c) m R.row q R.ne.1.symm R.ne.2.2 R.ne.2.1 (by simp) (by simp) (by simp)
   have O:=qD (x:=(v:Int)) Tryz.t167.1 Tryz.t3.1 (z:=.int .i64 0) (by kernel_rfl) q J
   have fv:f v=some (.int .i64 i):=by have:=L.1 i a;rwa [u]at this
   rw [fv]at O
   have P:=C.ld1 m a
   have Q:=C.len
   have ad:=C.le
   have ek:(l.getD i default).key=t:=by rw [u]
   have B:(l.getD i default).id=v:=by rw [u]
   rw [ek]at P
   refine ac (n:=61) (rs:=[.tmp 6]) rfl Tryz.e233 rfl rfl rfl (lbt rfl) ?_
   simp only [BS,LB,Nat.reduceLT,Nat.reduceEqDiff,F0d,O,Z,c2,c3,a,P,Xw,S.ld (b:=d) (o:=0) m1 rfl,S.ld (b:=d) (o:=1) m1 rfl,S.ld (b:=d) (o:=2) m1 rfl]
   refine ax (S.store (i:=0) (off:=i*2+1) rfl Tryz.t2.2.2.1 (by intro x e;cases e) rfl rfl (by omega) ono) ?_
   clear S;rintro h ⟨S,_⟩
   simp only [LC,ah]at S
   have T:=C.setKey a k
   generalize lay I (i*2+1) _=af at S T
   simp only [BS,LB,Nat.reduceLT,Nat.reduceEqDiff,F0d,S.ld (b:=d) (o:=0) m1 rfl,S.ld (b:=d) (o:=1) m1 rfl]
   have R1:eL h d A w j N (l.set i ⟨(l.getD i default).id,k⟩):=S.rowS T (by rw [Xi]) J (L.setKey k)
   refine step_ret (up_ok S.ok R1 (i:=i) (by rw [Xi];exact a) (by rw [Xi];omega) (Ai W (by unfold Ab.hle;simp only [];omega))) ?_
   rintro r h ⟨f,l',R',D,E⟩
   simp only [BS,Nat.reduceLT]
   have s:=g.lower a k
   rw [B]at s
   refine⟨S.fr.trans f (fun c g=>?_),⟨d,w,l',rfl,E,(by rw [B]at D;exact s.perm D),fun x y=>?_,.inr ⟨A,j,rfl,R'⟩⟩⟩
   . rcases g with rfl|rfl<;>exact .inl (by simp)
   . have:=D.mem_iff.1 y
     rcases List.mem_or_eq_of_mem_set this with h|rfl
     . exact hlt x h
     . rw [B];exact Y
end
end Go.Ab

end
section
namespace Go.Ab
open Go.Proofs
set_option maxRecDepth 10000
def Tryz.Ff:=aj t1<|aj t2<|aj t3<|aj t4<|aj t5<|aj t6<|aj Z1<|aj Z4<|aj t167<|aj t281<|aj t327<|aj Z9<|aj Z14<|Z11
section
variable{h0:Hp}{F:List Nat}{p:Value}{N:Nat}{K:Nat->Option Int}
theorem AE(ok:h0.t.Sized h0.n)(H:dC h0 F p N K)(hN:N<=1000):
 Ret zB 201 [p] h0 fun r h'=>(r=.tuple #[.int .i64 0,.int .i64 0,.bool false]/\(∀v,K v=none)/\Gr h0 h')\/ ∃v k,r=.tuple #[.int .i64 (v:Nat),.int .i64 k,.bool true]/\K v=some k/\(∀u k',K u=some k'->k<k'\/(k=k'/\v<=u))/\Mo (· ∈F) h0 h'/\dC h' F p N (d9 K v none):=by
 obtain⟨m,B,O⟩:=uQ ok H
 obtain⟨d,D,l,rfl,ho,t,hlt,hx⟩:=H.ex
 have a2:=s7 t hlt
 by_cases E:m=0
 . subst E
   have S:=Si ok
   refine ac (n:=55) (rs:=[.tmp 2,.tmp 3,.tmp 4]) rfl Tryz.e201 rfl rfl rfl (lbt rfl) ?_
   simp only [BS,LB,Nat.reduceLT,Nat.reduceEqDiff]
   refine al (B) ?_;intro h g;replace S:=S.call g;clear g
   simp only [BS,LB,ae,Nat.reduceLT,Nat.reduceEqDiff,zO]
   exact .inl ⟨O.1 rfl,S.gr⟩
 . have ad: ¬((m:Int)=0):=by omega
   rcases hx with⟨rfl,_⟩|⟨y,cap,rfl,R⟩
   . exact absurd (O.2 t.nil) E
   . have a:0<l.length:=by
      cases l with
      |nil=>exact absurd (O.2 t.nil) E
      |cons x l=>simp
     have S:=Si ok
     refine ac (n:=55) (rs:=[.tmp 2,.tmp 3,.tmp 4]) rfl Tryz.e201 rfl rfl rfl (lbt rfl) ?_
     simp only [BS,LB,Nat.reduceLT,Nat.reduceEqDiff]
     refine al (B) ?_;intro h g;replace S:=S.call g;replace R:=R.gr g;clear g
     have g0:=S.gr
     clear S
     obtain⟨cs,es,c,f,z,G,C,MI,IF⟩:=R.ex
     have r0:=R.row.load1 (o:=0) rfl
     have l2:=C.ld2 z a
     have S:=Si g0.ok
     have i0:ic (.int .i64 0) l.length=some 0:=fo (i:=0) a
     have w1:am .i64 ((l.length:Int)-1)=((l.length-1:Nat):Int):=by rw [wrap64]<;>omega
     simp only [BS,LB,Nat.reduceLT,Nat.reduceEqDiff,ad]
     refine ar (wi (ord:=[14,0,1,2,3,4,5,6,7,8,9,10,11,12,13,15,16]) rfl rfl (by simp only [eo,reix,eW,List.getElem?_cons_zero,List.getElem?_cons_succ,List.map_toArray,Xk,Yl,Nat.reduceBEq,cond_true,cond_false];exact rfl)) (q:=1) (ps:=[(13,15),(12,15)]) (by kernel_rfl) ?_
     simp only [BS,LB,cls,Nat.reducePow,Nat.reduceDiv,Nat.reduceMod,Nat.reduceLeDiff,Ff]
     refine fe aw S ?_;clear S;intro h s S a0 a1
     simp only [BS,LB,cls,Nat.reduceLT,Nat.reduceEqDiff,Nat.reduceAdd,Nat.reducePow,Nat.reduceDiv,Nat.reduceMod,Nat.reduceLeDiff,Ff,S.old r0 (fun h=>h),S.old l2 (fun h=>h),i0,w1]
     refine ep (S.store (i:=0) rfl ?_ ?_ rfl rfl ?_ ono) ?_
     . exact(by exact Tryz.t329.2.1)
     . exact(by intro x e;cases e)
     . exact lbt rfl
     clear S;rintro h ⟨S,mo⟩;clear mo;simp only [LC,ah,lay,Xq,Xr,Nat.reduceAdd]at S
     simp only [BS,LB,cls,Nat.reduceLT,Nat.reduceEqDiff,Nat.reduceAdd,Nat.reducePow,Nat.reduceDiv,Nat.reduceMod,Nat.reduceLeDiff,Ff,S.old r0 (fun h=>h),S.old l2 (fun h=>h)]
     have g1:=S.gr
     have R1:=R.gr g1
     have Y:=S.lds (b:=s) (o:=0) (n:=2) m0 (lbt rfl)
     have A:=R.lt g0.ok
     have nb:s≠d:=fun e=>by have:=A d (.inl rfl);omega
     have P:s≠y:=fun e=>by have:=A y (.inr (.inl rfl));omega
     refine⟨by simp only [bQ,bW,bE,cd,bM,ne_eq,not_false_eq_true,ce,cB,bO,bN,cy,dr,bK,Nat.reduceLT,Nat.reduceEqDiff,reduceIte,XP,ab,uP,yw,kB nb,kB nb.symm,kB P,kB P.symm],?_⟩
     have sw:Ret zB 229 [ptrTo d,.int .i64 0,.int .i64 ((l.length-1:Nat):Int)] _ _:=sa S.ok R1 (i:=0) (k:=l.length-1) a (by omega)
     refine step_ret sw ?_
     --refine step_ret (sa S.ok R1 (i := 0) (k := l.length - 1) a (by omega)) ?_
     rintro r I ⟨Z,L⟩
     have gg:Gr h0 h:=g0.trans g1
     have mA:Mo (· ∈[d,y,D]) h0 I:=(gg.fr (M:=(· ∈[d,y,D]))).trans Z (fun c t=>.inl (by rcases t with rfl|rfl<;>simp))
     have J:I.load s 0 2=some [.int .i64 (l.getD 0 default).id,.int .i64 (l.getD 0 default).key]:=by
      have:=Z.get s (ct Z.ok0 Y) (fun hM=>by have:=A s (.inr hM);omega)
      unfold Hp.load at Y⊢
      rw [this];exact Y
     have a3:=L.lt mA.ok
     have af:=mA.ok
     have Q:=ct mA.ok J
     clear S R R1 Z sw z G C MI IF Y l2 r0
     obtain⟨cs,es,c,f,z,G,C,MI,IF⟩:=L.ex
     have S:=St.init3 (M:=(· ∈[d,y,D])) (h:=I) af (o1:=.row cs 1) (o2:=.row _ 1) (o3:=.map es c) z L.row G L.ne.1.symm L.ne.2.2 L.ne.2.1 (by simp) (by simp) (by simp)
     have sl:=slice_hi (kd:=.i64) (b:=y) (len:=(sw l 0 (l.length-1)).length) (n:=l.length-1) Tryz.t327.1 Tryz.t335.2.1 (cap:=cap) (by have:=C.le;rw [gk]at this;omega)
     simp only [BS,LB,Nat.reduceLT,Nat.reduceEqDiff,XJ,X3,Ff,sl,S.ld (b:=d) (o:=0) m1 rfl,S.ld (b:=d) (o:=1) m1 rfl]
     refine ax (av S (i:=1) rfl ?_ ?_ ?_ ono) ?_
     . exact(by simp only [Ff])
     . exact(by exact bU)
     . exact Xl (lbt rfl)
     clear S;rintro h ⟨S,mo⟩;clear mo;simp only [LC,ah,lay,Xq,Xr,Nat.reduceAdd]at S
     simp only [BS,S.ld (b:=d) (o:=0) m1 rfl,S.ld (b:=d) (o:=1) m1 rfl]
     refine ar (ay rfl) (q:=0) (ps:=[]) (by kernel_rfl) ?_
     have T: ¬s∈[d,y,D]:=fun O=>by
      have:=A s (by simpa using O)
      omega
     have U:I.load s 0 1=some [.int .i64 (l.getD 0 default).id]:=by have:=qx J (i:=0) (m:=1) (by omega);simpa using this
     have ai:I.load s 1 1=some [.int .i64 (l.getD 0 default).key]:=by have:=qx J (i:=1) (m:=1) (by omega);simpa using this
     simp only [BS,LB,cls,Nat.reduceLT,Nat.reduceEqDiff,Nat.reduceAdd,Nat.reducePow,Nat.reduceDiv,Nat.reduceMod,Nat.reduceLeDiff,Ff,S.old U T,S.ld (b:=d) (o:=1) m1 rfl]
     refine dn_del (S.mdelI (i:=2) rfl Tryz.t167.1 Tryz.t3.1 MI) ?_
     clear S;rintro h ⟨_,a4,c',ak,S⟩
     simp only [LC]at S
     simp only [BS,LB,Nat.reduceLT,Nat.reduceEqDiff,Nat.reduceAdd,Ff]
     have V:(sw l 0 (l.length-1)).length=l.length:=gk _ _ _
     have w:=ij l (i:=0) (k:=l.length-1) a (by omega) (l.length-1)
     rw [if_pos rfl]at w
     have W:=IF.cut (m:=l.length-1) (by omega)
     rw [w]at W
     have tl:((sw l 0 (l.length-1)).take (l.length-1)).length=l.length-1:=by rw [Xp,V];omega
     have R3:eL h d y D cap N ((sw l 0 (l.length-1)).take (l.length-1)):=S.rowS (C.take _) tl.symm ak W
     have dn:Ret zB 230 [ptrTo d,.int .i64 0] h _:=down_ok S.ok R3 (i:=0) (by
      by_cases e:l.length-1=0
      . exact .inr ⟨List.length_eq_zero_iff.1 (by rw [tl,e]),rfl⟩
      . exact .inl (by omega)) (by omega) (heap_pop ho a)
     refine step_ret dn ?_
     rintro r h ⟨fB,l',R',pm,aL⟩
     have mB:Mo (· ∈[d,y,D]) I h:=S.fr.trans fB (fun c t=>.inl (by rcases t with rfl|rfl<;>simp))
     have X: ∀{o x},I.load s o 1=some x->h.load s o 1=some x:=fun e=>by
      have:=mB.get s Q T
      unfold Hp.load at e⊢
      rw [this];exact e
     simp only [BS]
     refine ar (ay rfl) (q:=0) (ps:=[]) (by kernel_rfl) ?_
     simp only [BS,LB,cls,ae,Nat.reduceLT,Nat.reduceEqDiff,Nat.reduceAdd,Nat.reducePow,Nat.reduceDiv,Nat.reduceMod,Nat.reduceLeDiff,Ff,X U,X ai]
     refine .inr ⟨(l.getD 0 default).id,(l.getD 0 default).key,rfl,t.at a,fun u k' hu=>?_,mA.trans mB (fun c t=>.inl t),⟨d,D,l',rfl,aL,(t.pop a).perm pm,fun x hx=>?_,.inr ⟨y,cap,rfl,R'⟩⟩⟩
     . obtain⟨j,hj,e⟩:=t.idx hu
       have:=heap_min ho j hj
       rw [e]at this
       unfold Ab.hle at this
       simp only []at this
       omega
     . exact hlt x ((rX l a (by omega)).mem_iff.1 (List.mem_of_mem_take (pm.mem_iff.1 hx)))
end
end Go.Ab

end
section
namespace Go.Ab
def qK(E:Env)(g:FuncId)(a post:List Value)(c:Hp)(D:Nat->Prop)(xs:List (List Value)):Prop:=
 ∀b J Z,(∀v h,¬Z (.pan v) h)->Yld E b J Z xs-> ∀h F,ItS c D h F->J 0 h F->fh E g (a++[.func (.yield b) #[] #[]]++post) none h (YQ J Z xs.length)
theorem iter_useN{E:Env}{g:FuncId}{a post:List Value}{c:Hp}{D:Nat->Prop}{xs:List (List Value)}(H:qK E g a post c D xs){d:Nat}{J:Nat->Hp->List Nat->Prop}{Z:Out->Hp->Prop}(j: ∀v h,¬Z (.pan v) h)(Y:Yld E d J Z xs)
 {h:Hp} {F:List Nat} (e:Mo (fun b=> ¬D b) c h) (k: ∀b∈F,b<c.n-> ¬D b) (i:J 0 h F):fh E g (a++[.func (.yield d) #[] #[]]++post) none h (YQ J Z xs.length):=
 H d J Z j Y h F ⟨e.ok,e.n,fun b f l=>e.get b f (fun m=>m l),fun b f h=>k b f h.1 h.2,(Y.lt 0 h F i).2⟩ i
theorem dn_yield{E:Env}{cx:Cx}{Q:ez}{a:List Oper}{q:Nat}{ps:List (Nat×Nat)}{o:Oper}{os:List Oper}{i:Nat}{k:List Fr}{l:Loc}{e:Hp->List (Nat×Tch)}{f h:Hp}{D:Nat->Prop}{g j:Nat}{J:Nat->Hp->List Nat->Prop}{Z:Out->Hp->Prop}{xs:List (List Value)}{x:List Value}{F:List Nat}
 (w: ∀v h,¬Z (.pan v) h) (Y:Yld E g J Z xs) (s:ItS f D h F) (m:J j h F) (n:xs[j]? =some x)
 (p: ∀d F',J (j+1) d F'->ItS f D d F'->Mo (· ∈F) h d->(∀b∈F',b∈F\/h.n<=b)->Run E (lim E) cx Q (.opsD a q ps os (i+1) (e d)::k) .normal (l.put o.dst (.bool true)) d)
 (k2: ∀d,Z (.ret (.bool false)) d->d.t.Sized d.n->Run E (lim E) cx Q (.opsD a q ps os (i+1) (e d)::k) .normal (l.put o.dst (.bool false)) d):DN E cx Q a q ps o os i k l e (some (.yield g x,h)):=by
 obtain⟨r,d,t,u⟩:=Y.round j x h F n m
 refine⟨r,d,t,?_⟩
 rcases u with⟨rfl,F',a,b,c⟩|⟨rfl,a,b⟩|⟨⟨v,rfl⟩,a⟩
 . exact p d F' a (s.mo b c (Y.lt _ _ _ a).2) b c
 . exact k2 d a b
 grind
def ey(h a:Hp):Prop:= ∀b,b<h.n->a.get b=h.get b
theorem ey.load{h a:Hp}(c:h.t.Sized h.n)(g:ey h a){b o n:Nat}{l:List Value}(e:h.load b o n=some l):a.load b o n=some l:=by
 have:=g b (ct c e)
 grind[Hp.load]
theorem ey.row{h a:Hp}(c:h.t.Sized h.n)(g:ey h a){b:Nat}{l:List Value}{md:Nat}(r:Row h b l md):Row a b l md:=Row.of_get (g b (r.lt c)) r
theorem au.keep{a:Type}{h d:Hp}{k:Nat}{enc:a->List Value}{v:Value}{xs:List a}(e:h.t.Sized h.n)(g:ey h d)(s:au h k enc v xs):au d k enc v xs:=by
 rcases s with s|⟨b,o,s,c,f,i,j⟩
 . exact .inl s
 . exact .inr ⟨b,o,s,c,f,i,g.load e j⟩
theorem fq.keep{h d:Hp}{v:Value}{m N:Nat}{R:Nat->List Nat}(e:h.t.Sized h.n)(g:ey h d)(r:fq h m v N R):fq d m v N R:=by
 obtain⟨f,j,k,l,n,o,p⟩:=r
 exact⟨f,j,k,l,g.row e n,o,fun i q=>by
  obtain⟨w,a,b,c⟩:=p i q
  exact⟨w,a,b.keep e g,c⟩⟩
theorem bF.keep{h d:Hp}{m:Nat}{p:Value}{e:Gra}(a:h.t.Sized h.n)(g:ey h d)(n:bF h m p e):bF d m p e:=by
 obtain⟨b,f,i,j,k,l,o,q,c,r,s,t,u⟩:=n.ex
 exact⟨b,f,i,j,k,l,o,g.row a q,⟨c.X.keep a g,c.Y.keep a g,c.A.keep a g⟩,r.keep a g,s.keep a g,t,u⟩
theorem Gr.keep{h a:Hp}(g:Gr h a):ey h a:=g.get
theorem ey.trans{a b c:Hp}(x:ey a b)(n:a.n<=b.n)(y:ey b c):ey a c:=fun i d=>(y i (XC d n)).trans (x i d)
theorem ItS.keep{hq a h:Hp}{D:Nat->Prop}{F:List Nat}(s:ItS a D h F)(g:ey hq a)(n:hq.n<=a.n)(e: ∀c,c<hq.n->D c):ey hq h:=fun b d=>(s.data b (XC d n) (e b d)).trans (g b d)
theorem tV{n:Int}(a:0<=n)(b:n<18446744073709551616):am .u64 n=n:=by
 obtain⟨m,rfl⟩:=Int.eq_ofNat_of_zero_le a
 grind[am,hf,sgn,pw,XV,XU]
theorem b_andU{E:Env}{t:TypeId}{x y:Operand}{N:Nat}(h:N<4294967296):aO E .and t x y (.int .u64 (N:Int)) (.int .u64 4294967295)=some (.int .u64 (N:Int)):=by
 have a:XV N 18446744073709551616=true:=by rw [XU];omega
 have b:Ya N 4294967295=N:=by
  have:=Nat.and_two_pow_sub_one_eq_mod N 32
  simp_all
 have e3:=tV (n:=(N:Int)) (by omega) (by omega)
 have c:gu .and .u64 (.ofNat N) (.ofNat 4294967295)=some (am .u64 (.ofNat (Ya N 4294967295))):=by
  simp only [gu,pw]
  rw [a];rfl
 show(gu .and .u64 (.ofNat N) (.ofNat 4294967295)).map _=_
 grind
theorem b_shrU{E:Env}{t:TypeId}{x y:Operand}{kd:IntKind}{N:Nat}(h:N<4294967296):aO E .shr t x y (.int .u64 (N:Int)) (.int kd 32)=some (.int .u64 0):=by
 have e:N/Nat.pow 2 (bif XM 32 (bitsOf .u64)then 32 else bitsOf .u64)=0:=by
  show N/4294967296=0
  omega
 show(oK .shr .u64 (.ofNat N) (.ofNat 32)).map _=_
 show some (Value.int .u64 (.ofNat (N/Nat.pow 2 (bif XM 32 (bitsOf .u64)then 32 else bitsOf .u64))))=_
 rw [e];rfl
end Go.Ab

end
section
namespace Go.Ab
open Go.Proofs
set_option maxRecDepth 10000
def Tryz.F0e:=aj t1<|aj t2<|aj t3<|aj t4<|t42
def Tryz.F0P:=aj t1<|aj t2<|aj t3<|aj t4<|aj t23<|aj t29<|aj t35<|aj Z0<|aj t42<|aj Z3<|aj t92<|Z2
def Tryz.F0f:=aj t1<|aj t2<|aj t3<|aj t4<|aj t35<|Z3
def Tryz.F0Q:=aj t1<|aj t2<|aj t3<|aj t4<|aj t42<|t92
def Tryz.F0g:=aj t1<|aj t2<|aj t3<|aj t4<|aj t23<|aj t29<|aj t35<|aj Z0<|aj t42<|aj Z3<|aj t92<|Z2
def Tryz.F0R:=aj t1<|aj t2<|aj t3<|aj t4<|aj t23<|aj t29<|aj t35<|aj Z0<|aj t42<|aj t92<|Z2
def Tryz.F0S:=aj t1<|aj t2<|aj t3<|aj t4<|aj t23<|aj t29<|aj t35<|aj Z0<|aj t42<|aj t92<|Z2
theorem fK{a:Hp}(k:a.t.Sized a.n){i:Type}{enc:i->List Value}(l: ∀x,(enc x).length=1){v:Value}{xs:List i}(m:au a 1 enc v xs)(w:xs.length<1000000):Ret zB 35 [v] a fun r d=>Gr a d/\au d 1 enc r xs/\ ∀c,ao r c->a.n<=c:=by
 have S:=Si k
 rcases m with⟨rfl,rfl⟩|⟨b,o,s,c,rfl,p,q⟩
 . refine ac (n:=8) (rs:=[.tmp 2]) rfl Tryz.e35 rfl rfl rfl (lbt rfl) ?_
   simp only [BS,LB,ae,Nat.reduceLT,Nat.reduceEqDiff,F0e]
   exact⟨S.gr,.inl ⟨rfl,rfl⟩,fun c f=>f.elim⟩
 . refine ac (n:=8) (rs:=[.tmp 2]) rfl Tryz.e35 rfl rfl rfl (lbt rfl) ?_
   simp only [BS,LB,Nat.reduceLT,Nat.reduceEqDiff,F0e]
   refine ag (bj (by exact Tryz.t42.1) (by exact Yn) (by decide) (by rfl)) S ?_;clear S;intro h y S j;simp only [LC,aR,bo,ah,Nat.reduceMul,Nat.reduceAdd,Xt,Xo,Xn,XN]at S
   simp only [BS,LB,Nat.reduceLT,Nat.reduceEqDiff]
   refine dX (S.cloneSl (enc:=enc) (xs:=[]) Tryz.t42.1 Yn (by decide) Tryz.t42.2.2.2.2.2 (.inr ⟨b,o,s,c,rfl,p,S.old q (fun h=>h)⟩) l (by decide) (by simp only [List.length_nil,Xo];omega) (S.row m0)) ?_
   rintro d v ⟨t,g,u,f⟩
   simp only [BS,LB,ae,Nat.reduceLT,Nat.reduceEqDiff]
   refine⟨t.gr,by simpa using u,fun c h=>(f c h).elim (fun e=>by omega) (fun e=>Xe S.fr.n e)⟩
theorem dI{a:Hp}(e:a.t.Sized a.n){p:Value}{d:Gra}{f:Nat}(c:bF a f p d):bC zB 61 [p] a (.int .i64 d.nodes):=by
 have S:=Si e
 obtain⟨b,h,i,j,k,l,rfl,r,_⟩:=c.ex
 have g:=r.load1 (o:=0) rfl
 refine ac (n:=10) (rs:=[.tmp 2]) rfl Tryz.e61 rfl rfl rfl (lbt rfl) ?_
 simp only [BS,LB,ae,Nat.reduceLT,Nat.reduceEqDiff,F0P,g]
 exact S.gr
theorem oneArc_ok{a:Hp}(k:a.t.Sized a.n){v:Value}{A:List Arc}(g:au a 3 cw v A){i:Nat}(l:i<A.length):Ret zB 219 [v,.int .i64 i] a fun r m=>Gr a m/\r=.tuple #[.agg ⟨cw A[i]⟩,.bool true]:=by
 have S:=Si k
 have p: ¬((i:Int)<0):=by omega
 have q: ¬((A.length:Int)<=(i:Int)):=by omega
 refine ac (n:=19) (rs:=[.cell 4 46,.tmp 5]) rfl Tryz.e219 rfl rfl rfl (lbt rfl) ?_
 simp only [BS,F0f]
 refine ag aw S ?_;clear S;intro h s S j
 obtain⟨c,o,d,f⟩:=(g.gr S.gr).ix (kd:=.i64) dO l
 simp only [BS,LB,Nat.reduceLT,Nat.reduceEqDiff,F0f,g.lenq,p,q,d,f]
 refine ax (S.store (i:=0) rfl ?_ ?_ rfl rfl ?_ ono) ?_
 . exact(by exact Tryz.t46.2.1)
 . exact(by intro x e;cases e)
 . exact lbt rfl
 clear S;rintro h ⟨S,t⟩;clear t;simp only [LC,ah,lay,Xq,Xr,Nat.reduceAdd]at S
 simp only [BS,ae,cw]
 refine(lO (by decide) (by simp only [bK,ab,Nat.reduceEqDiff,reduceIte];exact fD Tryz.t46.1 Tryz.t46.2.1 (S.lds (b:=s) (o:=0) (n:=3) m0 (lbt rfl)))).2 ?_
 refine(qd (by decide)).2 (jB.2 ?_)
 exact⟨S.gr,rfl⟩
theorem wR{a:Hp}(f:a.t.Sized a.n){m:Nat}{v:Value}{N:Nat}{R:Nat->List Nat}(g:fq a m v N R){i:Nat}(b:i<N):Ret zB 204 [v,.int .i64 i] a fun r c=>Gr a c/\ ∃w,r=.tuple #[w,.bool true]/\au c 1 d7 w (R i):=by
 have S:=Si f
 obtain⟨q,s,rfl,_,h,d,j⟩:=g
 obtain⟨w,e,k,_⟩:=j i b
 have l:=h.load1 e
 have o: ¬((i:Int)<0):=by omega
 have p: ¬((N:Int)<=(i:Int)):=by omega
 refine ac (n:=19) (rs:=[.tmp 4,.tmp 5]) rfl Tryz.e204 rfl rfl rfl (lbt rfl) ?_
 simp only [BS,LB,ae,Nat.reduceLT,Nat.reduceEqDiff,F0Q,o,p,b,l]
 exact⟨S.gr,_,rfl,k⟩
theorem py{a:Hp}(j:a.t.Sized a.n){p:Value}{d:Gra}{k:Nat}(c:bF a k p d){i:Nat}(l:i<d.arcs.length):Ret zB 190 [p,.int .i64 i] a fun r m=>Gr a m/\r=.tuple #[.agg ⟨cw d.arcs[i]⟩,.bool true]:=by
 have S:=Si j
 obtain⟨b,w,y,z,A,B,rfl,r,q,_⟩:=c.ex
 have s:=r.load1 (o:=3) rfl
 refine ac (n:=18) (rs:=[.cell 4 46,.tmp 5]) rfl Tryz.e190 rfl rfl rfl (lbt rfl) ?_
 simp only [BS,F0g]
 refine ag aw S ?_;clear S;intro h t S f
 simp only [BS,LB,Nat.reduceLT,Nat.reduceEqDiff,F0g,S.old s (fun h=>h)]
 refine step_ret (oneArc_ok S.ok (q.A.gr S.gr) l) ?_
 rintro v h ⟨g,rfl⟩
 replace S:=S.call g;clear g
 simp only [BS,LB,Nat.reduceLT,Nat.reduceEqDiff,cw]
 refine ax (S.store (i:=0) rfl ?_ ?_ rfl rfl ?_ ono) ?_
 . exact(by exact Tryz.t46.2.1)
 . exact(by intro x e;cases e)
 . exact lbt rfl
 clear S;rintro h ⟨S,u⟩;clear u;simp only [LC,ah,lay,Xq,Xr,Nat.reduceAdd]at S
 simp only [BS,LB,ae,Nat.reduceLT,Nat.reduceEqDiff]
 refine(lO (by decide) (by simp only [bK,ab,Nat.reduceEqDiff,reduceIte];exact fD Tryz.t46.1 Tryz.t46.2.1 (S.lds (b:=t) (o:=0) (n:=3) m0 (lbt rfl)))).2 ?_
 refine(qd (by decide)).2 (jB.2 ?_)
 exact⟨S.gr,rfl⟩
theorem netOut_ok{d:Hp}(j:d.t.Sized d.n){p:Value}{a:Gra}{k:Nat}(c:bF d k p a)(l:a.arcs.length<1000){i:Nat}(m:i<a.nodes):Ret zB 153 [p,.int .i64 i] d fun r f=>Gr d f/\au f 1 d7 r (outs a.arcs Arc.s a.arcs.length i)/\ ∀c,ao r c->d.n<=c:=by
 have S:=Si j
 obtain⟨b,x,y,z,A,B,rfl,r,C,q,D,_⟩:=c.ex
 have s:=r.load1 (o:=4) rfl
 refine ac (n:=20) (rs:=[.tmp 4]) rfl Tryz.e153 rfl rfl rfl (lbt rfl) ?_
 simp only [BS,LB,Nat.reduceLT,Nat.reduceEqDiff,F0R,s]
 refine step_ret (wR S.ok q m) ?_
 rintro v h ⟨g,w,rfl,e⟩
 replace S:=S.call g;clear g
 simp only [BS,LB,Nat.reduceLT,Nat.reduceEqDiff]
 have t:=S.fr.n
 have u:=oU a.arcs Arc.s a.arcs.length i
 refine step_ret (fK S.ok fU e (by omega)) ?_;intro v h ⟨g,e,hc⟩;replace S:=S.call g;clear g
 simp only [BS,LB,ae,Nat.reduceLT,Nat.reduceEqDiff]
 exact⟨S.gr,e,fun c h=>Xe t (hc c h)⟩
theorem xY{d:Hp}(j:d.t.Sized d.n){p:Value}{a:Gra}{k:Nat}(c:bF d k p a)(l:a.arcs.length<1000){i:Nat}(m:i<a.nodes):Ret zB 151 [p,.int .i64 i] d fun r f=>Gr d f/\au f 1 d7 r (outs a.arcs Arc.t a.arcs.length i)/\ ∀c,ao r c->d.n<=c:=by
 have S:=Si j
 obtain⟨b,x,y,z,A,B,rfl,r,C,D,q,_⟩:=c.ex
 have s:=r.load1 (o:=5) rfl
 refine ac (n:=20) (rs:=[.tmp 4]) rfl Tryz.e151 rfl rfl rfl (lbt rfl) ?_
 simp only [BS,LB,Nat.reduceLT,Nat.reduceEqDiff,F0S,s]
 refine step_ret (wR S.ok q m) ?_
 rintro v h ⟨g,w,rfl,e⟩
 replace S:=S.call g;clear g
 simp only [BS,LB,Nat.reduceLT,Nat.reduceEqDiff]
 have t:=S.fr.n
 have u:=oU a.arcs Arc.t a.arcs.length i
 refine step_ret (fK S.ok fU e (by omega)) ?_;intro v h ⟨g,e,hc⟩;replace S:=S.call g;clear g
 simp only [BS,LB,ae,Nat.reduceLT,Nat.reduceEqDiff]
 exact⟨S.gr,e,fun c h=>Xe t (hc c h)⟩
theorem mul64_ok{a:Hp}(c:a.t.Sized a.n){N:Nat}(j:N<1000):bC zB 240 [.int .u64 1,.int .u64 N] a (.tuple #[.int .u64 0,.int .u64 N]):=by
 have S:=Si c
 have d: ∀{t x y},aO zB .and t x y (.int .u64 1) (.int .u64 4294967295)=some (.int .u64 1):=b_andU (N:=1) (by decide)
 have e: ∀{t x y},aO zB .and t x y (.int .u64 0) (.int .u64 4294967295)=some (.int .u64 0):=b_andU (N:=0) (by decide)
 have f: ∀{t x y b},aO zB .shr t x y (.int .u64 1) (.int b 32)=some (.int .u64 0):=b_shrU (N:=1) (by decide)
 have g: ∀{t x y b},aO zB .shr t x y (.int .u64 0) (.int b 32)=some (.int .u64 0):=b_shrU (N:=0) (by decide)
 have h:am .u64 (N:Int)=(N:Int):=tV (by omega) (by omega)
 have i:am .u64 0=0:=rfl
 refine ac (n:=51) (rs:=[.tmp 4,.tmp 5]) rfl Tryz.e240 rfl rfl rfl (lbt rfl) ?_
 simp only [BS,LB,ae,Nat.reduceLT,Nat.reduceEqDiff,d,e,f,g,b_andU (N:=N) (by omega),b_shrU (N:=N) (by omega),Int.one_mul,Int.zero_mul,Int.mul_zero,Int.add_zero,h,i]
 exact S.gr
theorem mul_ok{a:Hp}(b:a.t.Sized a.n){N:Nat}(c:N<1000):bC zB 226 [.int .u64 1,.int .u64 N] a (.tuple #[.int .u64 0,.int .u64 N]):=by
 have S:=Si b
 refine ac (n:=30) (rs:=[.tmp 4,.tmp 5]) rfl Tryz.e226 rfl rfl rfl (lbt rfl) ?_
 simp only [BS,LB,Nat.reduceLT,Nat.reduceEqDiff]
 refine al (mul64_ok S.ok c) ?_;intro h g;replace S:=S.call g;clear g
 simp only [BS,LB,ae,Nat.reduceLT,Nat.reduceEqDiff]
 exact S.gr
def Tryz.FJ:=aj t1<|aj t2<|aj t3<|aj t4<|aj t5<|aj t6<|aj Z1<|aj Z4<|aj t9<|t42
def Tryz.FW:=aj t1<|aj t2<|aj t3<|aj t4<|aj t5<|aj t6<|aj Z1<|aj Z4<|aj t9<|aj t20<|t42
def Tryz.Fy:=aj t1<|aj t2<|aj t3<|aj t4<|aj t5<|aj t6<|aj t31<|aj t42<|Z5
theorem norm_ok{a:Hp}(j:a.t.Sized a.n){l:List Int}{v:Value}(b:au a 1 (encI .i64) v l)(k:l.length<1000):
 Ret zB 75 [v] a fun r d=>Gr a d/\au d 1 (encI .i64) r (norm [] l)/\ ∀c,ao r c->a.n<=c:=by
 have S:=Si j
 refine ac (n:=6) (rs:=[.tmp 2]) rfl Tryz.e75 rfl rfl rfl (lbt rfl) ?_
 simp only [BS,LB,Nat.reduceLT,Nat.reduceEqDiff]
 refine step_ret (namer_ok S.ok) ?_;intro v h ⟨g,bx,bm,m,n1,n2,R,hg⟩;replace S:=S.call g;replace b:=b.gr g;clear g
 subst m
 simp only [BS,LB,Nat.reduceLT,Nat.reduceEqDiff]
 refine step_ret (each_ok (ks:=[]) S.ok R hg b k) ?_
 rintro r h ⟨f,o,p⟩
 simp only [BS,LB,ae,Nat.reduceLT,Nat.reduceEqDiff]
 exact⟨(S.fr.trans f (fun i e=>.inr (by subst e;exact n2))).gr,o,fun c h=>Xe S.fr.n (p c h)⟩
theorem zj {g:Hp} (t:g.t.Sized g.n) {u v:Value} {l m:List Int} (r:au g 1 (encI .i64) u l) (s:au g 1 (encI .i64) v m) (B:l.length<1000000):bC zB 74 [u,v] g (.bool (decide (l=m))):=by
 have S:=Si t
 by_cases a:l.length=m.length
 . have hle:((l.length:Int)=(m.length:Int)):=by omega
   refine ac (n:=26) (rs:=[.tmp 4]) rfl Tryz.e74 rfl rfl rfl (lbt rfl) ?_
   simp only [BS,LB,Nat.reduceLT,Nat.reduceEqDiff,FJ,r.lenq,s.lenq,hle]
   refine aD (fun(i:Nat) j h=>i<=l.length/\l.take i=m.take i/\Gr g h/\j 0=u/\j 1=v/\j 12=.int .i64 l.length/\j 13=.int .i64 i) (fun i=>l.length-i) ?_ 0 _ _ ?_
   . clear S
     intro i x j h ⟨hi,ht,S,r0,r1,r12,r13⟩
     by_cases hlt:i<l.length
     . obtain⟨c,o,d,k⟩:=(r.gr S).ix (kd:=.i64) (aM .i64) hlt
       obtain⟨C,D,b,e⟩:=(s.gr S).ix (kd:=.i64) (aM .i64) (a▸hlt)
       have w:am .i64 ((i:Int)+1)=((i+1:Nat):Int):=by rw [wrap64]<;>omega
       by_cases p:l[i]=m[i]
       . simp only [BS,LB,Nat.reduceLT,Nat.reduceEqDiff,r12,r13,aq,hlt]
         refine ar (ay rfl) (q:=0) (ps:=[]) (by kernel_rfl) ?_
         simp only [BS,LB,cls,Nat.reduceLT,Nat.reduceEqDiff,Nat.reduceAdd,Nat.reducePow,Nat.reduceDiv,Nat.reduceMod,Nat.reduceLeDiff,FJ,r0,r1,r13,d,k,b,e,encI,p,w]
         refine x (i+1) _ _ (by omega) ⟨by omega,?_,S,by simp [aa,r0],by simp [aa,r1],by simp [aa,r12],by simp [aa]⟩
         rw [Xf hlt,Xf (a▸hlt),ht,p]
       . have f:l≠m:=by rintro rfl;exact p rfl
         simp only [BS,LB,Nat.reduceLT,Nat.reduceEqDiff,r12,r13,aq,hlt]
         refine ar (ay rfl) (q:=0) (ps:=[]) (by kernel_rfl) ?_
         simp only [BS,LB,cls,ae,Nat.reduceLT,Nat.reduceEqDiff,Nat.reduceAdd,Nat.reducePow,Nat.reduceDiv,Nat.reduceMod,Nat.reduceLeDiff,FJ,r0,r1,d,k,b,e,encI,p,f]
         exact S
     . have y:l=m:=by
        have z:l.take i=l:=Xs (by omega)
        have A:m.take i=m:=Xs (by omega)
        rw [z,A]at ht;exact ht
       subst y
       simp only [BS,LB,ae,Nat.reduceLT,Nat.reduceEqDiff,r12,r13,aq,hlt]
       exact S
   . exact⟨Nat.zero_le _,rfl,Gr.refl t,by simp [aa,aB],by simp [aa,aB,aY],by simp [aa,a],by simp [aa]⟩
 . have f:l≠m:=by rintro rfl;exact a rfl
   have hle: ¬((l.length:Int)=(m.length:Int)):=by omega
   refine ac (n:=26) (rs:=[.tmp 4]) rfl Tryz.e74 rfl rfl rfl (lbt rfl) ?_
   simp only [BS,LB,ae,Nat.reduceLT,Nat.reduceEqDiff,FJ,r.lenq,s.lenq,hle,f]
   exact S.gr
def gx:List Int->Int
 | []=>0
 |x::a=>a.foldl max x
theorem lmax_succ{l:List Int}{i:Nat}(a:1<=i)(hlt:i<l.length):gx (l.take (i+1))=max (gx (l.take i)) l[i]:=by
 cases l with
 |nil=>cases hlt
 | cons x b=>
   obtain⟨j,rfl⟩: ∃j,i=j+1:=⟨i-1,by omega⟩
   rw [Yd,Yd,gx,gx,List.getElem_cons_succ,Xf (by simpa using hlt),List.foldl_append]
   rfl
theorem lmax_one{l:List Int}(a:0<l.length):gx (l.take 1)=l[0]:=by
 cases l with
 |nil=>cases a
 |cons x b=>rfl
theorem maxInt_ok{f:Hp}(p:f.t.Sized f.n){v:Value}{l:List Int}(g:au f 1 (encI .i64) v l)(k:1<=l.length)(t:l.length<1000000):bC zB 76 [v] f (.int .i64 (gx l)):=by
 have S:=Si p
 have m: ¬((l.length:Int)<1):=by omega
 obtain⟨c,o,a,b⟩:=g.ix (kd:=.i64) (aM .i64) (i:=0) (by omega)
 have d:ig (some 1) v (.int .i64 0)=_:=a
 have q:=lmax_one (l:=l) (by omega)
 generalize l[0]=x at b q
 refine ac (n:=25) (rs:=[.tmp 2]) rfl Tryz.e76 rfl rfl rfl (lbt rfl) ?_
 simp only [BS,LB,Nat.reduceLT,Nat.reduceEqDiff,FW,g.lenq,m,d,b,encI]
 refine aD (fun(i:Nat) j h=>1<=i/\i<=l.length/\Gr f h/\j 0=v/\j 3=.int .i64 (gx (l.take i))/\j 4=.int .i64 i) (fun i=>l.length-i) ?_ 1 _ _ ?_
 . clear S
   intro i s j h ⟨k,hi,S,r0,r3,r4⟩
   by_cases hlt:i<l.length
   . obtain⟨c,o,a,b⟩:=(g.gr S).ix (kd:=.i64) (aM .i64) hlt
     have w:am .i64 ((i:Int)+1)=((i+1:Nat):Int):=by rw [wrap64]<;>omega
     have r:=lmax_succ k hlt
     generalize l[i]=y at b r
     simp only [BS,LB,Nat.reduceLT,Nat.reduceEqDiff,FW,r0,r3,r4,(g.gr S).lenq,aq,hlt,a,b,encI,w]
     refine s (i+1) _ _ (by omega) ⟨by omega,by omega,S,by simp [aa,r0],?_,by simp [aa]⟩
     simp only [bK,Nat.reduceEqDiff,reduceIte]
     rw [r]
   . simp only [BS,LB,ae,Nat.reduceLT,Nat.reduceEqDiff,FW,r0,r3,r4,(g.gr S).lenq,aq,hlt]
     have e:l.take i=l:=Xs (by omega)
     rw [e]
     exact⟨rfl,S⟩
 . exact⟨Xh _,k,Gr.refl p,by simp [aa,aB],by simp [aa,q],by simp [aa]⟩
theorem yZ(ks l:List Int):(norm ks l).length=l.length:=by
 induction l generalizing ks with
 |nil=>rfl
 |cons x a b=>show(norm _ a).length+1=_;rw [b];rfl
def gG(h:Hp)(n:Nat)(p:Value)(m:List Int):Prop:= ∃b v,p=ptrTo b/\Row h b [v,.int .i64 (gx m+1)] 1/\au h 1 (encI .i64) v m/\n<=b/\ ∀c,ao v c->n<=c
theorem gG.mo{M:Nat->Prop}{h a:Hp}{n:Nat}{p:Value}{m:List Int}(c:gG h n p m)(g:Mo M h a)(d: ∀b,M b->b<n):gG a n p m:=by
 obtain⟨b,v,e,r,s,i,f⟩:=c
 exact⟨b,v,e,g.has (o:=.row _ 1) r (fun h=>by have:=d _ h;omega),s.mo g (fun c j k=>by have:=d _ k;have:=f c j;omega),i,f⟩
theorem gG.gr{h a:Hp}{n:Nat}{p:Value}{m:List Int}(c:gG h n p m)(g:Gr h a):gG a n p m:=c.mo (M:=NoM) g.fr (fun _ h=>h.elim)
def uu(m:List Int):Prop:=m=[]\/norm [] m≠m\/256<gx m+1
theorem Ak{j:Hp}(A:j.t.Sized j.n){v:Value}{m:List Int}(d:au j 1 (encI .i64) v m)(B:m.length<1000)(H:0<=gx m/\gx m<=1000000):
 Ret zB 27 [v] j fun r t=>Gr j t/\((uu m/\r=.pointer none)\/(¬uu m/\gG t j.n r m)):=by
 have S:=Si A
 have I:=yZ [] m
 by_cases u:m=[]
 . subst u
   refine ac (n:=27) (rs:=[.tmp 2]) rfl Tryz.e27 rfl rfl rfl (lbt rfl) ?_
   simp only [BS,LB,ae,Nat.reduceLT,Nat.reduceEqDiff,zO,Fy,d.lenq]
   exact⟨S.gr,.inl (.inl rfl)⟩
 . have C:1<=m.length:=by cases m with
    |nil=>exact absurd rfl u
    |cons a l=>simp
   have D: ¬((m.length:Int)=0):=by omega
   refine ac (n:=27) (rs:=[.tmp 2]) rfl Tryz.e27 rfl rfl rfl (lbt rfl) ?_
   simp only [BS,LB,Nat.reduceLT,Nat.reduceEqDiff,Fy,d.lenq,D]
   refine step_ret (norm_ok S.ok d B) ?_;intro v h ⟨g,sl,fr⟩;replace S:=S.call g;replace d:=d.gr g;clear g
   by_cases p:norm [] m=m
   . simp only [BS,LB,Nat.reduceLT,Nat.reduceEqDiff]
     refine al (zj S.ok sl d (by omega)) ?_;intro h g;replace S:=S.call g;replace d:=d.gr g;clear g
     simp only [BS,LB,Nat.reduceLT,Nat.reduceEqDiff,p]
     have E:=S.fr.n
     refine step_ret (fK S.ok (aM .i64) d (by omega)) ?_
     intro y h ⟨g,i,q⟩;replace S:=S.call g;replace d:=d.gr g;clear g
     have F:Fl y:=i.fl
     simp only [BS,LB,Nat.reduceLT,Nat.reduceEqDiff]
     refine al (maxInt_ok S.ok d C (by omega)) ?_;intro h g;replace S:=S.call g;replace d:=d.gr g;replace i:=i.gr g;clear g
     have w:am .i64 (gx m+1)=gx m+1:=by rw [wrap64]<;>omega
     have k:=S.gr
     clear S;have S:=Si k.ok
     simp only [BS,LB,Nat.reduceLT,Nat.reduceEqDiff,Nat.reduceAdd,Fy,w,F]
     refine ag (bR (by intro x e;cases e)) S ?_;clear S;intro h b S s;simp only [ah]at S
     have z:=S.ld (b:=b) (o:=1) m0 rfl
     by_cases f:256<gx m+1
     . simp only [BS,LB,ae,Nat.reduceLT,Nat.reduceEqDiff,Fy,f,z]
       exact⟨k.trans S.gr,.inl (.inr (.inr f))⟩
     . simp only [BS,LB,ae,Nat.reduceLT,Nat.reduceEqDiff,Fy,f,z]
       exact⟨k.trans S.gr,.inr ⟨by rintro(h|h|h)<;>contradiction,b,y,rfl,S.row m0,i.gr S.gr,Xe k.n s,fun c G=>Xe E (q c G)⟩⟩
   . simp only [BS,LB,Nat.reduceLT,Nat.reduceEqDiff]
     refine al (zj S.ok sl d (by omega)) ?_;intro h g;replace S:=S.call g;replace d:=d.gr g;clear g
     simp only [BS,LB,ae,Nat.reduceLT,Nat.reduceEqDiff,p]
     exact⟨S.gr,.inl (.inr (.inl p))⟩
def Tryz.F0T:=aj t1<|aj t2<|aj t3<|aj t4<|aj t23<|aj t29<|aj t35<|aj Z0<|aj t42<|aj Z3<|aj t92<|Z2
theorem nQ{a:Hp}(e:a.t.Sized a.n){p:Value}{d:Gra}{f:Nat}(c:bF a f p d):bC zB 80 [p] a (.int .i64 d.arcs.length):=by
 have S:=Si e
 obtain⟨b,i,j,k,l,m,rfl,r,g,_⟩:=c.ex
 have h:=r.load1 (o:=3) rfl
 refine ac (n:=11) (rs:=[.tmp 2]) rfl Tryz.e80 rfl rfl rfl (lbt rfl) ?_
 simp only [BS,LB,ae,Nat.reduceLT,Nat.reduceEqDiff,F0T,h,g.A.lenq]
 exact S.gr
def Tryz.F0h:=aj t1<|aj t2<|aj t3<|aj t4<|aj t31<|aj t42<|Z5
def Tryz.F0i:=aj t1<|aj t2<|aj t3<|aj t4<|aj t31<|aj t42<|Z5
def Tryz.F0j:=aj t1<|aj t2<|aj t3<|aj t4<|aj t5<|aj t22<|aj t32<|Z6
def Tryz.F0k:=aj t1<|aj t2<|aj t3<|aj t4<|aj t5<|aj t22<|aj t32<|Z6
def Tryz.FX:=aj t1<|aj t2<|aj t3<|aj t4<|aj t5<|aj t6<|aj Z1<|t224
def Tryz.F0U:=aj t1<|aj t3<|aj t4<|aj t29<|aj t31<|aj Z0<|aj t42<|aj t92<|aj Z2<|Z5
def kx(h:Hp)(p:Value)(m:List Int)(n:Int):Prop:=(p=.pointer none/\m=[]/\n=0)\/((∃k,gG h k p m)/\n=gx m+1)
theorem kx.gr{h a:Hp}{p:Value}{m:List Int}{n:Int}(g:Gr h a)(c:kx h p m n):kx a p m n:=c.imp (fun h=>h) (fun⟨⟨k,h⟩,e⟩=>⟨⟨k,h.gr g⟩,e⟩)
theorem map_ok{a:Hp}(e:a.t.Sized a.n){p:Value}{m:List Int}{n:Int}(c:kx a p m n)(f:m.length<1000000):Ret zB 49 [p] a fun r d=>Gr a d/\au d 1 (encI .i64) r m:=by
 have S:=Si e
 rcases c with⟨rfl,rfl,rfl⟩|⟨⟨_,b,v,rfl,r,s,_,_⟩,rfl⟩
 . refine ac (n:=10) (rs:=[.tmp 2]) rfl Tryz.e49 rfl rfl rfl (lbt rfl) ?_
   simp only [BS,LB,ae,Nat.reduceLT,Nat.reduceEqDiff,F0h]
   exact⟨S.gr,.inl ⟨rfl,rfl⟩⟩
 . have i:=r.load1 (o:=0) rfl
   refine ac (n:=10) (rs:=[.tmp 2]) rfl Tryz.e49 rfl rfl rfl (lbt rfl) ?_
   simp only [BS,LB,Nat.reduceLT,Nat.reduceEqDiff,F0h,i]
   refine step_ret (fK S.ok (aM .i64) s f) ?_;intro v h ⟨g,sl,_⟩;replace S:=S.call g;clear g
   simp only [BS,LB,ae,Nat.reduceLT,Nat.reduceEqDiff]
   exact⟨S.gr,sl⟩
theorem vq{a:Hp}(d:a.t.Sized a.n){p:Value}{m:List Int}{n:Int}(c:kx a p m n):bC zB 79 [p] a (.int .i64 n):=by
 have S:=Si d
 rcases c with⟨rfl,rfl,rfl⟩|⟨⟨_,b,v,rfl,r,s,_,_⟩,rfl⟩
 . refine ac (n:=9) (rs:=[.tmp 2]) rfl Tryz.e79 rfl rfl rfl (lbt rfl) ?_
   simp only [BS,LB,ae,Nat.reduceLT,Nat.reduceEqDiff,F0i]
   exact S.gr
 . have e:=r.load1 (o:=1) rfl
   refine ac (n:=9) (rs:=[.tmp 2]) rfl Tryz.e79 rfl rfl rfl (lbt rfl) ?_
   simp only [BS,LB,ae,Nat.reduceLT,Nat.reduceEqDiff,F0i,e]
   exact S.gr
def oP(h:Hp)(p:Value)(a w:Int)(c:Bool):Prop:=(p=.pointer none/\a=0/\w=0/\c=false)\/ ∃b x y,p=ptrTo b/\Row h b [.int .i64 a,.int .i64 w,x,y] 1/\c=true
theorem oP.gr{h d:Hp}{p:Value}{a w:Int}{f:Bool}(g:Gr h d)(c:oP h p a w f):oP d p a w f:=c.imp (fun h=>h) (fun⟨b,x,y,e,r,n⟩=>⟨b,x,y,e,r.gr g,n⟩)
theorem jR{d:Hp}(e:d.t.Sized d.n){p:Value}{a w:Int}{f:Bool}(c:oP d p a w f):bC zB 119 [p] d (.int .i64 a):=by
 have S:=Si e
 rcases c with⟨rfl,rfl,rfl,rfl⟩|⟨b,x,y,rfl,r,rfl⟩
 . refine ac (n:=9) (rs:=[.tmp 2]) rfl Tryz.e119 rfl rfl rfl (lbt rfl) ?_
   simp only [BS,LB,ae,Nat.reduceLT,Nat.reduceEqDiff,F0j]
   exact S.gr
 . have g:=r.load1 (o:=0) rfl
   refine ac (n:=9) (rs:=[.tmp 2]) rfl Tryz.e119 rfl rfl rfl (lbt rfl) ?_
   simp only [BS,LB,ae,Nat.reduceLT,Nat.reduceEqDiff,F0j,g]
   exact S.gr
theorem mi{d:Hp}(e:d.t.Sized d.n){p:Value}{a w:Int}{f:Bool}(c:oP d p a w f):bC zB 120 [p] d (.int .i64 w):=by
 have S:=Si e
 rcases c with⟨rfl,rfl,rfl,rfl⟩|⟨b,x,y,rfl,r,rfl⟩
 . refine ac (n:=9) (rs:=[.tmp 2]) rfl Tryz.e120 rfl rfl rfl (lbt rfl) ?_
   simp only [BS,LB,ae,Nat.reduceLT,Nat.reduceEqDiff,F0k]
   exact S.gr
 . have g:=r.load1 (o:=1) rfl
   refine ac (n:=9) (rs:=[.tmp 2]) rfl Tryz.e120 rfl rfl rfl (lbt rfl) ?_
   simp only [BS,LB,ae,Nat.reduceLT,Nat.reduceEqDiff,F0k,g]
   exact S.gr
theorem allB_ok{b:Hp}(j:b.t.Sized b.n){v:Value}{l:List Bool}(k:au b 1 encB v l)(p:l.length<1000):bC zB 118 [v] b (.bool (l.all id)):=by
 have S:=Si j
 refine ac (n:=14) (rs:=[.tmp 2]) rfl Tryz.e118 rfl rfl rfl (lbt rfl) ?_
 simp only [BS,LB,Nat.reduceLT,Nat.reduceEqDiff,FX,k.lenq]
 refine aD (fun(i:Nat) f h=>i<=l.length/\(l.take i).all id=true/\Gr b h/\f 5=v/\f 6=.int .i64 l.length/\f 7=.int .i64 i) (fun i=>l.length-i) ?_ 0 _ _ ?_
 . clear S
   intro i m f h ⟨hi,ht,S,r5,r6,r7⟩
   by_cases hlt:i<l.length
   . obtain⟨c,o,a,d⟩:=(k.gr S).ix (kd:=.i64) encB_len hlt
     have w:am .i64 ((i:Int)+1)=((i+1:Nat):Int):=by rw [wrap64]<;>omega
     cases g:l[i]with
     | true=>
       simp only [BS,LB,Nat.reduceLT,Nat.reduceEqDiff,FX,r5,r6,r7,aq,hlt,a,d,encB,g,w]
       refine m (i+1) _ _ (by omega) ⟨by omega,?_,S,by simp [aa,r5],by simp [aa,r6],by simp [aa]⟩
       rw [Xf hlt,List.all_append,ht,g];rfl
     | false=>
       have e:l.all id=false:=by rw [List.all_eq_false];exact⟨_,XY hlt,by simp [g]⟩
       simp only [BS,LB,ae,Nat.reduceLT,Nat.reduceEqDiff,FX,r5,r6,r7,aq,hlt,a,d,encB,g]
       rw [e]
       exact⟨rfl,S⟩
   . simp only [BS,LB,ae,Nat.reduceLT,Nat.reduceEqDiff,r6,r7,aq,hlt]
     rw [Xs (by omega)]at ht
     rw [ht]
     exact⟨rfl,S⟩
 . exact⟨Nat.zero_le _,rfl,Gr.refl j,by simp [aa,aB],by simp [aa],by simp [aa]⟩
theorem xI{e:Hp}(i:e.t.Sized e.n){p q:Value}{b:Gra}{m:List Int}{n:Int}{j:Nat}(c:bF e j p b)(d:kx e q m n)(l:1<=b.nodes)(k:m.length<1000000):bC zB 77 [p,q] e (.bool (decide (m.length=b.nodes))):=by
 have S:=Si i
 have a:(0:Int)<(b.nodes:Int):=by omega
 have f:(b.nodes:Int)>0:=a
 refine ac (n:=16) (rs:=[.tmp 4]) rfl Tryz.e77 rfl rfl rfl (lbt rfl) ?_
 simp only [BS,LB,Nat.reduceLT,Nat.reduceEqDiff]
 refine al (dI S.ok c) ?_;intro h g;replace S:=S.call g;replace c:=c.gr g;replace d:=d.gr g;clear g
 simp only [BS,LB,Nat.reduceLT,Nat.reduceEqDiff,a]
 refine step_ret (map_ok S.ok d k) ?_;intro v h ⟨g,sl⟩;replace S:=S.call g;replace c:=c.gr g;replace d:=d.gr g;clear g
 simp only [BS,LB,Nat.reduceLT,Nat.reduceEqDiff,F0U,sl.lenq]
 refine al (dI S.ok c) ?_;intro h g;replace S:=S.call g;replace c:=c.gr g;replace d:=d.gr g;clear g
 simp only [BS,LB,ae,Nat.reduceLT,Nat.reduceEqDiff]
 refine⟨?_,S.gr⟩
 congr 1
 by_cases h:m.length=b.nodes
 . simp [h]
 . have: ¬((m.length:Int)=(b.nodes:Int)):=by omega
   simp [h,this]
theorem zI{f:Hp}(t:f.t.Sized f.n){p q r:Value}{i:Gra}{m:List Int}{n a w:Int}{j:Bool}{u:Nat}(c:bF f u p i)(d:kx f q m n)(e:oP f r a w j)(v:1<=i.nodes)(z:m.length<1000000):
 bC zB 62 [p,q,r] f (.bool (decide (m.length=i.nodes)&&j&&decide (a=n)&&decide (w=i.arcs.length))):=by
 have S:=Si t
 have A: ∀E:Env,me E 32=true-> ∀x y,aO E .neq 32 x y r (.pointer none)=some (.bool j):=by
  intro E k x y
  rcases e with⟨rfl,_,_,rfl⟩|⟨b,_,_,rfl,_,rfl⟩
  . exact n_pnil k
  . exact n_ptr k
 refine ac (n:=24) (rs:=[.tmp 6]) rfl Tryz.e62 rfl rfl rfl (lbt rfl) ?_
 simp only [BS,LB,Nat.reduceLT,Nat.reduceEqDiff]
 refine al (xI S.ok c d v z) ?_;intro h g;replace S:=S.call g;replace c:=c.gr g;replace d:=d.gr g;replace e:=e.gr g;clear g
 simp only [BS,LB,Nat.reduceLT,Nat.reduceEqDiff,A zB Tryz.t32.2.2.2.2.1]
 refine al (jR S.ok e) ?_;intro h g;replace S:=S.call g;replace c:=c.gr g;replace d:=d.gr g;replace e:=e.gr g;clear g
 simp only [BS,LB,Nat.reduceLT,Nat.reduceEqDiff]
 refine al (vq S.ok d) ?_;intro h g;replace S:=S.call g;replace c:=c.gr g;replace d:=d.gr g;replace e:=e.gr g;clear g
 simp only [BS,LB,Nat.reduceLT,Nat.reduceEqDiff]
 refine al (mi S.ok e) ?_;intro h g;replace S:=S.call g;replace c:=c.gr g;replace d:=d.gr g;replace e:=e.gr g;clear g
 simp only [BS,LB,Nat.reduceLT,Nat.reduceEqDiff]
 refine al (nQ S.ok c) ?_;intro h g;replace S:=S.call g;replace c:=c.gr g;replace d:=d.gr g;replace e:=e.gr g;clear g
 simp only [BS,LB,Nat.reduceLT,Nat.reduceEqDiff]
 refine ag (bj (by exact Tryz.t224.1) (by exact Tryz.e4E) (by decide) (by rfl)) S ?_;clear S;intro h B S s;simp only [LC,aR,bo,ah,Nat.reduceMul,Nat.reduceAdd,Xt,Xo,Xn,XN]at S
 simp only [BS,LB,Nat.reduceLT,Nat.reduceEqDiff]
 refine al (allB_ok (l:=[decide (m.length=i.nodes),j,decide (a=n),decide (w=i.arcs.length)]) S.ok (.inr ⟨B,0,none,4,rfl,Xh _,S.lds (o:=0) (n:=4) m0 (lbt rfl)⟩) (by simp)) ?_;intro h g;replace S:=S.call g;clear g
 simp only [BS,LB,ae,Nat.reduceLT,Nat.reduceEqDiff]
 exact⟨by simp [Bool.and_assoc],S.gr⟩
end Go.Ab
end
section
namespace Go.Ab
theorem xO{E:Env}{t e:TypeId}{b n N:Nat}{kd:IntKind}(c:E.und t=some (.slice e))(d:E.sz e=some 1)(f:n<N):eQ E t (.slice (some ⟨b,0,none⟩) N N) (some (.int kd (n:Int))) none none=some (.slice (some ⟨b,n,none⟩) (N-n) (N-n)):=by
 have a: ∀n:Nat,eV (n:Int)=some n:=fun n=>rfl
 have g:XH N n=false:=by
  cases h:XH N n with
  |false=>rfl
  |true=>have:=X5 h;omega
 simp only [eQ,c,eI,eG,a,Xb (XZ f),cond_true,d,Xc,cond_false,g,fi,Xn,Xo]
theorem ww{E:Env}{t e:TypeId}{b n N k:Nat}{kd:IntKind}(c:E.und t=some (.slice e))(d:E.sz e=some k)(f:n<=N):eQ E t (.slice (some ⟨b,0,none⟩) N N) none (some (.int kd (n:Int))) none=some (.slice (some ⟨b,0,none⟩) n N):=by
 have a: ∀n:Nat,eV (n:Int)=some n:=fun n=>rfl
 simp only [eQ,c,eI,eG,a,Xb f,cond_true,d,Xc,cond_false,fi,Xt,Ym,Yj]
 cases XH N 0<;>rfl
section
variable{M:Nat->Prop}{h0 h:Hp}{L:List (Nat×Ob)}{G:List GL}{E:Env}{t e:TypeId}
theorem St.copyO(S:St M h0 h L G){i b o len cap f o2 m n:Nat}{p c:Option Nat}{cs l:List Value}(g:L[i]? =some (b,.row cs 1))(q:E.und t=some (.slice e))(r:E.sz e=some 1)(v:0<cU m len)(j:h.load f o2 (cU m len*1)=some l)(d:o+l.length<=cs.length)(hf:l.all ik=true){ts:List TypeId}:
 ∃k w,copyV E h (t::ts) (.slice (some ⟨b,o,p⟩) len cap) (.slice (some ⟨f,o2,c⟩) m n)=some (k,w)/\w=.int .i64 (cU m len:Nat)/\St M h0 k (L.set i (b,.row (lay cs o l) 1)) G:=by
 obtain⟨y,s,u⟩:=(S.row (Xa g)).store S.ok ono (o:=o) (vs:=l) d hf
 have a:=load_len j
 refine⟨h.put b y,_,?_,rfl,S.put g u⟩
 simp only [copyV,q,r,j]
 cases l with
 |nil=>simp at a;omega
 |cons x z=>simp only [s];rfl
end
theorem iW{a b:Nat}(h:a<=b):cU a b=a:=by unfold cU;rw [Xb h];rfl
theorem rJ{a b:Nat}(h:b<=a):cU a b=b:=by
 unfold cU
 cases c:XM a b with
 |false=>rfl
 |true=>have:=lbt c;show a=b;omega
theorem rQ{X Z:Value}{n c k:Nat}(e:c<=k):lay (zM n X++zM k Z) n (zM c X)=zM (n+c) X++zM (k-c) Z:=by
 refine XF fun j=>?_
 rw [iZ (by simp;omega),XI,Yb,Yb,XI,XI,Xg,Xg,Xg,Xg,Xg]
 by_cases a:j<n
 . rw [if_neg (by omega),if_pos a,if_pos a,if_pos (by omega),if_pos (by omega)]
 . by_cases b:j<n+c
   . rw [if_pos (by omega),if_pos (by omega),if_pos b,if_pos b]
   . rw [if_neg (by omega),if_neg a,if_neg b]
     by_cases d:j-n<k
     . rw [if_pos d,if_pos (by omega)]
     . rw [if_neg d,if_neg (by omega)]
theorem oX(z:Value): ∀n,aR [z] n=zM n z
 |0=>rfl
 |n+1=>by simp [aR,oX z n,List.replicate_succ]
def ClF(O:List Nat)(f:Int->Option Value):Prop:= ∀u:Nat,f (u:Int)=if u∈O then some (.int .i64 1)else none
end Go.Ab

end
section
namespace Go.Ab
section
variable{M:Nat->Prop}{h0 h h':Hp}{L L':List (Nat×Ob)}{G G':List GL}{Fh:List Nat}
theorem St.baseF(S:St M h0 h L G)(Fh:List Nat):St (fun c=>c∈keys L G\/c∈Fh) h h L G:=
 ⟨Mo.refl S.ok,fun p a=>⟨.inr (.inl (kE a)),(S.own p a).2⟩,fun p a=>⟨(S.gown p a).1,fun b d=>.inr (.inl (jE a d))⟩,S.apart⟩
theorem St.rebaseF(S:St M h0 h L G)(e: ∀c∈Fh,h0.n<=c\/M c)(T:St (fun c=>c∈keys L G\/c∈Fh) h h' L' G'):St M h0 h' L' G':=by
 have f: ∀b,h.n<=b\/(b∈keys L G\/b∈Fh)->h0.n<=b\/M b:=fun b a=>a.elim (fun a=>.inl (Xe S.fr.n a)) (fun a=>a.elim S.key_own (e b))
 exact⟨S.fr.trans T.fr fun b a=>(a.elim S.key_own (e b)).symm,fun p d=>⟨f _ (T.own p d).1,(T.own p d).2⟩,fun p d=>⟨(T.gown p d).1,fun b a=>f b ((T.gown p d).2 b a)⟩,T.apart⟩
theorem St.callF(S:St M h0 h L G){i b:Nat}{o o':Ob}(l:L[i]? =some (b,o))(f:Mo (fun c=>c∈Fh\/c=b) h h')(m: ∀c∈Fh,(M c\/h0.n<=c)/\c∉keys L G)(r:Has h' b o'):St M h0 h' (L.set i (b,o')) G:=by
 have s:=S.own _ (Xa l)
 have g:(keys L G)[i]? =some b:=oz l
 refine⟨S.fr.trans f (fun c k=>by grind),fun p a=>?_,fun p a=>⟨(S.gown p a).1.of_get fun c k=>?_,(S.gown p a).2⟩,?_⟩
 . rcases kA a with rfl|⟨j,n,a⟩
   . grind
   . have d:=S.own p (Xa a)
     refine⟨d.1,d.2.of_get (f.get _ (d.2.lt S.ok) fun e=>?_)⟩
     rcases e with e|e
     . exact(m _ e).2 (kE (Xa a))
     . apply n
       have q:(keys L G)[j]? =some b:=by rw [oz a];rw [e]
       exact pj S.apart q g
 . refine f.get c ((S.gown p a).1.lt S.ok k) fun e=>?_
   rcases e with e|e
   . exact(m _ e).2 (jE a k)
   . subst e
     have d:=S.apart
     unfold keys at d
     rw [XR]at d
     exact d.2.2 c (List.mem_map.2 ⟨_,Xa l,rfl⟩) c (List.mem_filterMap.2 ⟨p,a,k⟩) rfl
 . have:keys (L.set i (b,o')) G=keys L G:=by
    unfold keys
    congr 1
    rw [List.map_set]
    refine XF fun j=>?_
    grind
   rw [this];exact S.apart
theorem St.stepF(S:St M h0 h L G)(f:Mo (· ∈Fh) h h')(b: ∀c∈Fh,(M c\/h0.n<=c)/\c∉keys L G):St M h0 h' L G:=
 S.step f (fun c a=>(b c a).1) (fun c a d=>(b c d).2 a)
theorem St.permL(S:St M h0 h L G)(p:L'.Perm L):St M h0 h L' G:=
 ⟨S.fr,fun x a=>S.own x (p.mem_iff.1 a),S.gown,by
  have:(keys L' G).Perm (keys L G):=(p.map Xj).append_right _
  exact this.nodup_iff.2 S.apart⟩
end
theorem St.mono{M M':Nat->Prop}{d h:Hp}{L:List (Nat×Ob)}{G:List GL}(S:St M d h L G)(c: ∀b,M b->M' b):St M' d h L G:=
 ⟨S.fr.mono c,fun p a=>⟨(S.own p a).1.imp (fun h=>h) (c _),(S.own p a).2⟩,fun p a=>⟨(S.gown p a).1,fun b e=>((S.gown p a).2 b e).imp (fun h=>h) (c _)⟩,S.apart⟩
theorem Dj.exm{B:List Arc}{s N:Nat}{O:List Nat}{D:Nat->Nat}{K:Nat->Option Int}{b ex':Arc->Prop}(d:Dj B s N O D K b)(h: ∀a∈B,b a->ex' a):Dj B s N O D K ex':=
 ⟨d.i1,d.i2,d.i2f,d.i3,fun a c e f=>d.i4 a c e (fun g=>f (h a c g)),d.i5,d.nd,d.lt⟩
def noteSl:Value->Option Tch
 | .map (some r)=>some (.blk r)
 | .slice (some a) _ _=>some (.blk a.block)
 |_=>none
theorem yd{ρ:Operand->Value}{b:Bool}{x y:Operand}{ts:Array TypeId}{h a:Hp}:cj ρ b (.call ⟨.builtin .append,#[x,y],ts⟩) h a=noteSl (ρ x):=by
 simp only [cj,du,iS,ef,touch,cond_false]
 cases ρ x<;>first|rfl|(rename_i x;cases x<;>rfl)|(rename_i x _ _;cases x<;>rfl)
theorem pair_x{x:Option Tch}:js x none=true:=by
 cases x with
 |none=>rfl
 |some b=>cases b<;>rfl
theorem entry_nl{i:Nat}:cq i []=none:=rfl
end Go.Ab

end
section
namespace Go.Ab
def SlW(h:Hp)(kd:IntKind)(v:Value)(xs:List Int):Prop:=(v=.slice none 0 0/\xs=[])\/ ∃b o c,v=.slice (some ⟨b,o,none⟩) xs.length c/\xs.length<=c/\h.load b o (xs.length*1)=some (xs.flatMap (encI kd))
theorem SlW.sl{h:Hp}{kd:IntKind}{v:Value}{xs:List Int}(s:SlW h kd v xs):au h 1 (encI kd) v xs:=s.imp (fun h=>h) (fun⟨b,o,c,a,d,e⟩=>⟨b,o,none,c,a,d,e⟩)
theorem SlW.low{E:Env}{h:Hp}{kd kd':IntKind}{t e:TypeId}{v:Value}{xs:List Int}(g:E.und t=some (.slice e))(j:E.sz e=some 1)(s:SlW h kd v xs){n:Nat}(a:n<=xs.length):
 ∃v',eQ E t v none (some (.int kd' (n:Int))) none=some v'/\au h 1 (encI kd) v' (xs.take n)/\ ∀c,ao v' c->ao v c:=by
 have f: ∀n:Nat,eV (n:Int)=some n:=fun n=>rfl
 rcases s with⟨rfl,rfl⟩|⟨b,o,c,rfl,k,q⟩
 . have:n=0:=by simpa using a
   subst this
   refine⟨.slice none 0 0,?_,.inl ⟨rfl,rfl⟩,fun c d=>d⟩
   simp only [eQ,g,eI,eG,f,j]
   rfl
 . refine⟨.slice (some ⟨b,o,none⟩) n c,?_,.inr ⟨b,o,none,c,?_,?_,?_⟩,fun c d=>d⟩
   . simp only [eQ,g,eI,eG,f,Xb (Xe a k),cond_true,j,Xc,cond_false,Yj,fi,Xt,Ym]
     by_cases d:c=0
     . subst d;rfl
     . rw [show XH c 0=false by cases c with|zero=>exact absurd rfl d|succ c=>rfl];rfl
   . rw [Xp,X4 a]
   . rw [Xp,X4 a];exact Xe a k
   . rw [Xp,X4 a]
     have:=qx q (i:=0) (m:=n*1) (by omega)
     rw [Ym,X7]at this
     rw [this]
     congr 1
     refine XF fun i=>?_
     have p: ∀l:List Int,l.flatMap (encI kd)=l.map fun x=>.int kd x:=fun l=>by
      rw [Xu,Ye,Xu];rfl
     rw [p,p,Xn,List.map_take]
end Go.Ab

end
section
namespace Go.Ab
open Go.Proofs
set_option maxRecDepth 10000
def iota(k:Nat):List Int:=(Xm k).map fun(i:Nat)=>(i:Int)
theorem yX(k:Nat):(iota k).length=k:=by simp [iota]
theorem we(k:Nat):iota (k+1)=iota k++[(k:Int)]:=by simp [iota,List.range_succ]
theorem pos_app(l:List Int)(x y:Int):pos (l++[y]) x=match pos l x with|some i=>some i|none=>if x=y then some l.length else none:=by
 induction l with
 |nil=>simp [pos]
 | cons z a b=>
   rw [XW,pos,pos]
   by_cases h:x=z
   . rw [if_pos h,if_pos h]
   . rw [if_neg h,if_neg h,b]
     cases pos a x with
     |some i=>rfl
     |none=>by_cases c:x=y<;>simp [c]
theorem xJ(k j:Nat):pos (iota k) (j:Int)=if j<k then some j else none:=by
 induction k with
 |zero=>rfl
 | succ k a=>
   rw [we,pos_app,a,yX]
   by_cases h:j<k
   . rw [if_pos h,if_pos (show j<k+1 by omega)]
   . rw [if_neg h]
     by_cases b:j=k
     . subst b;simp
     . have: ¬((j:Int)=(k:Int)):=by omega
       simp only [this,if_false];rw [if_neg (by omega)]
theorem pos_lt{l:List Int}{x:Int}{i:Nat}(h:pos l x=some i):i<l.length:=by
 induction l generalizing i with
 |nil=>cases h
 | cons y b c=>
   rw [pos]at h
   by_cases e:x=y
   . rw [if_pos e]at h;cases h;simp
   . rw [if_neg e]at h
     cases a:pos b x with
     |none=>rw [a]at h;cases h
     |some j=>rw [a]at h;cases h;have:=c a;simp;omega
theorem norm_idem(ks l:List Int):norm (iota ks.length) (norm ks l)=norm ks l:=by
 induction l generalizing ks with
 |nil=>rfl
 | cons x c a=>
   rw [norm,norm]
   unfold lZ mj
   cases b:pos ks x with
   | some i=>
     simp only []
     rw [xJ,if_pos (pos_lt b)]
     simp only []
     rw [a]
   | none=>
     simp only []
     rw [xJ,if_neg (by omega)]
     simp only []
     rw [yX,<-we]
     have:=a (ks++[x])
     rw [XB,List.length_singleton]at this
     rw [this]
theorem norm_bd(ks l:List Int): ∀x∈norm ks l,0<=x/\x<=((ks.length+l.length:Nat):Int):=by
 induction l generalizing ks with
 |nil=>intro x a;cases a
 | cons y e b=>
   intro x a
   rw [norm]at a
   rcases List.mem_cons.1 a with rfl|a
   . have:lZ ks y<=ks.length:=by
      unfold lZ
      cases c:pos ks y with
      |some i=>exact XZ (pos_lt c)
      |none=>exact Xh _
     simp;omega
   . have d:=b _ x a
     have:(mj ks y).length<=ks.length+1:=by
      unfold mj
      cases pos ks y<;>simp
     simp at d⊢;omega
theorem fold_bd(K:Int)(l:List Int)(a:Int)(b:0<=a/\a<=K)(h: ∀x∈l,0<=x/\x<=K):0<=l.foldl max a/\l.foldl max a<=K:=by
 induction l generalizing a with
 |nil=>exact b
 | cons x e c=>
   have f:=h x (by simp)
   exact c (max a x) (by omega) (fun y d=>h y (by simp [d]))
theorem lmax_bd{K:Int}(a:0<=K){l:List Int}(h: ∀x∈l,0<=x/\x<=K):0<=gx l/\gx l<=K:=by
 cases l with
 |nil=>exact⟨Int.le_refl _,a⟩
 |cons x b=>exact fold_bd K b x (h x (by simp)) (fun y c=>h y (by simp [c]))
theorem au.blt{a:Type}{h:Hp}{k:Nat}{enc:a->List Value}{v:Value}{xs:List a}(f:h.t.Sized h.n)(s:au h k enc v xs){c:Nat}(d:ao v c):c<h.n:=by
 rcases s with⟨rfl,_⟩|⟨b,o,_,_,rfl,_,g⟩
 . exact d.elim
 . have:b=c:=d
   subst this
   cases e:h.get b with
   |none=>simp [Hp.load,e]at g
   |some x=>exact fJ f e
end Go.Ab
end
section
namespace Go.Ab
theorem xp{z:Nat}(h:z<256):am .u8 (z:Int)=(z:Int):=by
 show am .u8 (.ofNat z)=_
 unfold am
 simp only [hf,sgn,pw]
 have:XV z 256=true:=by rw [XU];exact h
 rw [this];rfl
section
variable{E:Env}{t:TypeId}{p q:Operand}{x y i:Nat}
theorem bits8(op:BinOp)(a:x<256)(b:y<256):gu op .u8 (x:Int) (y:Int)=match op with
 | .and=>some (am .u8 ((Ya x y:Nat):Int))
 | .or=>some (am .u8 ((Nat.lor x y:Nat):Int))
 | .xor=>some (am .u8 ((Nat.xor x y:Nat):Int))
 | .andNot=>some (am .u8 ((Nat.xor x (Ya x y):Nat):Int))
 |_=>none:=by
 show gu op .u8 (.ofNat x) (.ofNat y)=_
 have c:XV x (pw .u8)=true:=by rw [XU];exact a
 have d:XV y (pw .u8)=true:=by rw [XU];exact b
 unfold gu
 simp only [c,d,Bool.and_self,cond_true]
 cases op<;>rfl
theorem b_or8(a:x<256)(b:y<256):aO E .or t p q (.int .u8 (x:Int)) (.int .u8 (y:Int))=some (.int .u8 ((x|||y:Nat):Int)):=by
 show(bif hZ .u8 .u8 then(gu .or .u8 (x:Int) (y:Int)).map (Value.int .u8 ·)else none)=_
 rw [bits8 .or a b]
 simp only []
 rw [show Nat.lor x y=x|||y from rfl,xp (Nat.or_lt_two_pow (n:=8) a b)]
 rfl
theorem wh(a:x<256)(b:y<256):aO E .andNot t p q (.int .u8 (x:Int)) (.int .u8 (y:Int))=some (.int .u8 ((x ^^^(x&&& y):Nat):Int)):=by
 show(bif hZ .u8 .u8 then(gu .andNot .u8 (x:Int) (y:Int)).map (Value.int .u8 ·)else none)=_
 rw [bits8 .andNot a b]
 simp only []
 rw [show Nat.xor x (Ya x y)=x ^^^(x&&& y)from rfl,xp (XD (n:=8) a (XE XK a))]
 rfl
theorem b_shl8{k:IntKind}(a:i<8):aO E .shl t p q (.int .u8 1) (.int k (i:Int))=some (.int .u8 ((2 ^i:Nat):Int)):=by
 have:i=0\/i=1\/i=2\/i=3\/i=4\/i=5\/i=6\/i=7:=by omega
 rcases this with rfl|rfl|rfl|rfl|rfl|rfl|rfl|rfl<;>rfl
end
theorem pow8{i:Nat}(h:i<8):2 ^i<256:=Nat.pow_lt_pow_right (by decide) h
def setB(x i:Nat):Nat:=(x ^^^(x&&& 2 ^i))|||2 ^i
theorem setB_at(x i j:Nat):(setB x i).testBit j=if j=i then true else x.testBit j:=by
 unfold setB
 rw [Nat.testBit_or,Nat.testBit_xor,Nat.testBit_and,Nat.testBit_two_pow]
 by_cases e:j=i
 . subst e;simp
 . have a: ¬i=j:=fun h=>e h.symm
   simp [e,a]
theorem setB_lt{x i:Nat}(a:x<256)(b:i<8):setB x i<256:=
 Nat.or_lt_two_pow (n:=8) (XD (n:=8) a (XE XK a)) (pow8 b)
end Go.Ab

end
section
namespace Go.Ab
open Go.Proofs
set_option maxRecDepth 10000

def Tryz.F0l:=aj t1<|aj t2<|aj t3<|aj t4<|aj t5<|aj t6<|aj t22<|aj t32<|Z6
def Tryz.F0m:=aj t1<|aj t2<|aj t3<|aj t4<|aj t5<|t161
def fk(n:Nat)(B:Nat->Nat):List Value:=(Xm n).map fun j=>.int .u8 (B j:Nat)
theorem pg{n:Nat}{B:Nat->Nat}:(fk n B).length=n:=by simp [fk]
theorem vP{n j:Nat}{B:Nat->Nat}(h:j<n):(fk n B)[j]? =some (.int .u8 (B j:Nat)):=lU (F:=fun j=>Value.int .u8 ((B j:Nat):Int)) h
theorem sX{n j x:Nat}{B:Nat->Nat}:(fk n B).set j (.int .u8 (x:Nat))=fk n (fd B j x):=by
 have:=jq (N:=n) (k:=j) (F:=fun j=>Value.int .u8 ((B j:Nat):Int)) (F':=fun u=>Value.int .u8 ((fd B j x u:Nat):Int)) (fun i _ a=>by simp [fd,a])
 unfold fk
 rw [<-this];simp [fd]
structure hU(h:Hp)(bp bb rows wide long:Nat)(B:Nat->Nat):Prop where
 r:Row h bp [.int .i64 rows,.int .i64 wide,.int .i64 long,.slice (some ⟨bb,0,none⟩) (rows*long) (rows*long)] 1
 b:Row h bb (fk (rows*long) B) 1
 lt: ∀j,B j<256
theorem hU.gr{h d:Hp}{e f a b c:Nat}{B:Nat->Nat}(m:hU h e f a b c B)(g:Gr h d):hU d e f a b c B:=⟨m.r.gr g,m.b.gr g,m.lt⟩
theorem hU.bits{h:Hp}{d e a b c:Nat}{B:Nat->Nat}(m:hU h d e a b c B):oP h (ptrTo d) a b true:=.inr ⟨d,_,_,rfl,m.r,rfl⟩
def bitB(B:Nat->Nat)(a r i:Nat):Bool:=(B (r*a+i/8)).testBit (i%8)
theorem yh{B:Nat->Nat}{b r i d c:Nat}(g:i/8<b)(j:c/8<b):bitB (fd B (r*b+i/8) (setB (B (r*b+i/8)) (i%8))) b d c=if d=r/\c=i then true else bitB B b d c:=by
 unfold bitB fd
 by_cases e:d*b+c/8=r*b+i/8
 . rw [if_pos e,setB_at]
   have k:d=r:=by
    have a:(d*b+c/8)/b=(r*b+i/8)/b:=by rw [e]
    rw [Nat.mul_comm d,Nat.mul_comm r,Nat.mul_add_div (by omega),Nat.mul_add_div (by omega),Nat.div_eq_of_lt g,Nat.div_eq_of_lt j]at a
    omega
   subst k
   have l:c/8=i/8:=by omega
   rw [e]
   by_cases f:c%8=i%8
   . rw [if_pos f,if_pos ⟨rfl,by omega⟩]
   . rw [if_neg f,if_neg (fun h=>f (by rw [h.2]))]
 . rw [if_neg e,if_neg (fun h=>e (by rw [h.1,h.2]))]
theorem bmNew_ok{f:Hp}(v:f.t.Sized f.n){a w:Nat}(y:a<=100)(D:w<=1000):Ret zB 78 [.int .i64 (a:Nat),.int .i64 (w:Nat)] f fun r l=>Gr f l/\ ∃c d,r=ptrTo c/\f.n<=c/\f.n<=d/\c≠d/\hU l c d a w ((w+7)/8) (fun _=>0):=by
 have S:=Si v
 have m: ¬((a:Int)<0):=by omega
 have o: ¬((w:Int)<0):=by omega
 have p: ¬((67108864:Int)<(w:Int)):=by omega
 have q:am .i64 ((w:Int)+8)=(w:Int)+8:=by rw [wrap64]<;>omega
 have s:am .i64 ((w:Int)+8-1)=((w+7:Nat):Int):=by rw [wrap64]<;>omega
 have i:(w+7)/8<=126:=by omega
 have j:am .i64 ((((w+7:Nat):Int)).tdiv 8)=(((w+7)/8:Nat):Int):=by
  rw [Xx (by omega),show(((w+7:Nat):Int)/8)=(((w+7)/8:Nat):Int) by omega,wrap64]<;>omega
 generalize E:(w+7)/8=K at i j
 have F:a*K<=100*126:=X6 y i
 have t:am .i64 ((a:Int)*(K:Int))=((a*K:Nat):Int):=by rw [<-Int.natCast_mul,wrap64]<;>omega
 have mk: ∀(n:Nat),aR [Value.int .u8 0] n=fk n (fun _=>0):=fun n=>by
  rw [oX]
  unfold fk
  rw [List.map_const',XT]
  rfl
 by_cases u:0<(K:Int)
 . have z:(268435456:Int).tdiv (K:Int)=((268435456/K:Nat):Int):=by
    rw [Xx (by decide)];rfl
   have G:268435456/126<=268435456/K:=Nat.div_le_div_left i (by omega)
   have H:268435456/K<=268435456:=Nat.div_le_self _ _
   have I:(268435456/126:Nat)=2130440:=rfl
   have A:am .i64 ((268435456:Int).tdiv (K:Int))=(268435456:Int).tdiv (K:Int):=by rw [z,wrap64]<;>omega
   have B: ¬((268435456:Int).tdiv (K:Int)<(a:Int)):=by omega
   have C:(K:Int)≠0:=by omega
   refine ac (n:=37) (rs:=[.tmp 4]) rfl Tryz.e78 rfl rfl rfl (lbt rfl) ?_
   simp only [BS,LB,Nat.reduceLT,Nat.reduceEqDiff,m,o,p,q,s,j,A,t,u,B,jC (n:=8) (by decide),jC (n:=(K:Int)) C]
   refine ag (m9 (by exact Tryz.t22.1) (by exact Tryz.e5E) (by omega) (by omega)) S ?_;clear S;intro h d S b
   rw [Xd,mk]at S
   simp only [BS,LB,Nat.reduceLT,Nat.reduceEqDiff,Nat.reduceAdd,F0l,Xd]
   refine ag (bR (by intro x e;cases e)) S ?_;clear S;intro h c S g;simp only [ah]at S
   simp only [BS,LB,ae,Nat.reduceLT,Nat.reduceEqDiff]
   have k:=S.apart
   exact⟨S.gr,c,d,rfl,by have:=S.fr.n;omega,b,fun e=>(by subst e;simp [keys]at k),⟨S.row m0,S.row m1,fun _=>Nat.zero_lt_succ _⟩⟩
 . refine ac (n:=37) (rs:=[.tmp 4]) rfl Tryz.e78 rfl rfl rfl (lbt rfl) ?_
   simp only [BS,LB,Nat.reduceLT,Nat.reduceEqDiff,m,o,p,q,s,j,t,u,jC (n:=8) (by decide)]
   refine ag (m9 (by exact Tryz.t22.1) (by exact Tryz.e5E) (by omega) (by omega)) S ?_;clear S;intro h d S b
   rw [Xd,mk]at S
   simp only [BS,LB,Nat.reduceLT,Nat.reduceEqDiff,Nat.reduceAdd,F0l,Xd]
   refine ag (bR (by intro x e;cases e)) S ?_;clear S;intro h c S g;simp only [ah]at S
   simp only [BS,LB,ae,Nat.reduceLT,Nat.reduceEqDiff]
   have k:=S.apart
   exact⟨S.gr,c,d,rfl,by have:=S.fr.n;omega,b,fun e=>(by subst e;simp [keys]at k),⟨S.row m0,S.row m1,fun _=>Nat.zero_lt_succ _⟩⟩
theorem set1_ok{c:Hp}(s:c.t.Sized c.n){a e j n i:Nat}{B:Nat->Nat}(R:Row c a (fk n B) 1)(d:j<n)(f:B j<256)(t:i<8)(v:c.load e 0 1=some [.bool true])(g:e≠a):
 Ret zB 89 [.pointer (some ⟨a,j,none⟩),.int .u8 ((2 ^i:Nat):Int),ptrTo e] c fun r m=>Mo (· =a) c m/\r=.bool true/\Row m a (fk n (fd B j (setB (B j) i))) 1:=by
 have S:=St.init1 s (o:=.row (fk n B) 1) R
 have p:=S.ld (b:=a) (o:=j) m0 (vP d)
 have q:=pow8 t
 have w:(B j ^^^(B j&&& 2 ^i))<256:=XD (n:=8) f (XE XK f)
 refine ac (n:=19) (rs:=[.tmp 5]) rfl Tryz.e89 rfl rfl rfl (lbt rfl) ?_
 simp only [BS,LB,Nat.reduceLT,Nat.reduceEqDiff,F0m,p,wh f q]
 refine ax (av S (i:=0) rfl Tryz.t5.2.2.1 bZ (by rw [pg];exact d) ono) ?_
 clear S p;rintro h ⟨S,x⟩
 simp only [LC]at S
 rw [sX]at S
 have k:=S.ld (b:=a) (o:=j) m0 (vP d)
 have y:fd B j (B j ^^^(B j&&& 2 ^i)) j=(B j ^^^(B j&&& 2 ^i)):=by simp [fd]
 rw [y]at k
 have l:=S.old v g
 simp only [BS,LB,Nat.reduceLT,Nat.reduceEqDiff,F0m,l,k,b_or8 w q]
 refine ax (av S (i:=0) rfl Tryz.t5.2.2.1 bZ (by rw [pg];exact d) ono) ?_
 clear S k;rintro h ⟨S,x⟩
 simp only [LC]at S
 rw [show(((B j ^^^(B j&&& 2 ^i))|||2 ^i:Nat):Int)=((setB (B j) i:Nat):Int)from rfl,sX]at S
 have z:fd (fd B j (B j ^^^(B j&&& 2 ^i))) j (setB (B j) i)=fd B j (setB (B j) i):=by
  funext u;unfold fd;split<;>rfl
 rw [z]at S
 simp only [BS,LB,ae,Nat.reduceLT,Nat.reduceEqDiff]
 exact⟨S.fr,S.row m0⟩
end Go.Ab
end
section
namespace Go.Ab
open Go.Proofs
set_option maxRecDepth 10000
def Tryz.F0V:=aj t1<|aj t2<|aj t3<|aj t4<|aj t5<|aj t22<|aj t32<|aj t161<|aj t162<|Z6
section
variable{h0:Hp}{bp bb rows wide long:Nat}{B:Nat->Nat}
theorem us{r i:Nat}(e:r<rows)(g:i<wide)(a:rows<=100)(b:wide<=1000)(c:long=(wide+7)/8):
 am .i64 ((r:Int)*(long:Int))=((r*long:Nat):Int)/\am .i64 ((i:Int).tdiv 8)=((i/8:Nat):Int)/\am .i64 (((r*long:Nat):Int)+((i/8:Nat):Int))=((r*long+i/8:Nat):Int)/\(i:Int).tmod 8=((i%8:Nat):Int)/\r*long+i/8<rows*long/\i/8<long/\i%8<8:=by
 have f:long<=126:=by omega
 have h:r*long<=100*126:=X6 (by omega) f
 have d:i/8<long:=by omega
 have j:r*long+long<=rows*long:=by
  rw [<-Nat.succ_mul];exact Nat.mul_le_mul_right _ e
 refine⟨by rw [<-Int.natCast_mul,wrap64]<;>omega,?_,by rw [wrap64]<;>omega,rfl,by omega,d,by omega⟩
 rw [show(i:Int).tdiv 8=((i/8:Nat):Int)from rfl,wrap64]<;>omega
theorem bSet_ok(x:h0.t.Sized h0.n)(m:hU h0 bp bb rows wide long B)(l:bp≠bb){r i:Nat}(E:r<rows)(F:i<wide)(b:rows<=100)(d:wide<=1000)(e:long=(wide+7)/8):
 Ret zB 32 [ptrTo bp,.int .i64 (r:Nat),.int .i64 (i:Nat),.bool true] h0 fun v p=>Mo (· =bb) h0 p/\v=.bool true/\hU p bp bb rows wide long (fd B (r*long+i/8) (setB (B (r*long+i/8)) (i%8))):=by
 obtain⟨G,H,I,J,y,n6,t⟩:=us E F b d e
 have K: ∀{h:Hp} {s:Nat},Gr h0 h->h.load s 0 1=some [.bool true]->s≠bb->Ret zB 88 [ptrTo bp,.int .i64 (r:Nat),.int .i64 (i:Nat),.func (.func 89) #[] #[ptrTo s]] h fun v p=>Mo (· =bb) h p/\v=.bool true/\Row p bb (fk (rows*long) (fd B (r*long+i/8) (setB (B (r*long+i/8)) (i%8)))) 1:=by
  intro h s g L N
  have S:=Si g.ok
  have k:=m.gr g
  have O: ¬(r:Int)<0:=by omega
  have P: ¬(rows:Int)<=(r:Int):=by omega
  have Q: ¬(i:Int)<0:=by omega
  have T: ¬(wide:Int)<=(i:Int):=by omega
  have U:=k.r.load1 (o:=2) rfl
  have V:=k.r.load1 (o:=3) rfl
  have W:=k.r.lt g.ok
  refine ac (n:=46) (rs:=[.tmp 8]) rfl Tryz.e88 rfl rfl rfl (lbt rfl) ?_
  simp only [BS,LB,Nat.reduceLT,Nat.reduceEqDiff,O]
  refine al (jR S.ok k.bits) ?_;intro h1 u;replace S:=S.call u
  simp only [BS,LB,Nat.reduceLT,Nat.reduceEqDiff,P,Q]
  refine al (mi S.ok (k.gr u).bits) ?_;intro X z;replace S:=S.call z
  have a:=u.trans z
  have Y:=a.load U
  have Z:=a.load V
  simp only [BS,LB,Nat.reduceLT,Nat.reduceEqDiff,T]
  refine ar (ay rfl) (q:=0) (ps:=[]) (by kernel_rfl) ?_
  simp only [BS,LB,cls,Nat.reduceLT,Nat.reduceEqDiff,Nat.reduceAdd,Nat.reducePow,Nat.reduceDiv,Nat.reduceMod,Nat.reduceLeDiff,F0V,Y,Z,G,H,I,J,y,jC (n:=8) (by decide),eP (n:=8) (by decide),b_shl8 t]
  refine c6 (set1_ok S.ok (k.b.gr a) y (k.lt _) t (a.load L) N) ?_
  rintro v h3 ⟨A,rfl,R3⟩
  have vv:leaves X h3 bp=true:=mC (A.get bp (XC W a.n) l)
  simp only [BS,LB,cls,ae,Nat.reduceLT,Nat.reduceEqDiff,Nat.reduceAdd,Nat.reducePow,Nat.reduceDiv,Nat.reduceMod,Nat.reduceLeDiff]
  exact⟨(a.fr (M:=(· =bb))).trans A (fun c w=>.inl w),R3⟩
 have S:=Si x
 have zb:=m.b.lt x
 refine ac (n:=14) (rs:=[.tmp 8]) rfl Tryz.e32 rfl rfl rfl (lbt rfl) ?_
 simp only [BS,Nat.reduceLT]
 refine ag (cL (by exact oD)) S ?_;clear S;intro h s S C
 simp only [BS,LB,Nat.reduceLT,Nat.reduceEqDiff]
 have k7:=S.fr.n
 refine step_ret (K S.gr (S.ld m0 rfl) (by omega)) ?_
 rintro v h ⟨f,rfl,R⟩
 simp only [BS,LB,ae,Nat.reduceLT,Nat.reduceEqDiff]
 have D:Mo (· =bb) h0 h:=(S.gr.fr (M:=(· =bb))).trans f (fun c w=>.inl w)
 refine⟨D,D.has (o:=.row _ 1) m.r l,R,fun j=>?_⟩
 unfold fd
 split
 . exact setB_lt (m.lt _) t
 . exact m.lt _
end
theorem ke{n:Nat}{f:Nat->Bool}:(Xm (n+1)).filter f=(Xm n).filter f++if f n=true then [n]else []:=by
 rw [List.range_succ,List.filter_append]
 congr 1
 by_cases h:f n=true
 . simp [h]
 . simp [h]
theorem uk{f:Nat->Bool}{i:Nat}(h:f i=true): ∀n,i<n->((Xm n).filter f)[((Xm i).filter f).length]? =some i:=by
 intro n
 induction n with
 |zero=>intro a;omega
 | succ n b=>
   intro a
   rw [ke]
   by_cases c:i<n
   . have:=b c
     rw [List.getElem?_append_left (List.getElem?_eq_some_iff.1 this).1];exact this
   . have:i=n:=by omega
     subst this
     rw [Xy (Xh _),if_pos h]
     simp
theorem vj{n:Nat}{f:Nat->Bool}:((Xm n).filter f).length<=n:=by
 have:=List.length_filter_le f (Xm n)
 rwa [XT]at this
end Go.Ab

end
section
namespace Go.Ab
open Go.Proofs
set_option maxRecDepth 10000
def Tryz.F0n:=aj t1<|aj t2<|aj t3<|aj t4<|aj t5<|t161
def Tryz.F0W:=aj t1<|aj t2<|aj t3<|aj t4<|aj t5<|aj t22<|aj t32<|aj t161<|aj t162<|Z6
theorem clr1_ok{a:Hp}(m:a.t.Sized a.n){c d j n i:Nat}{B:Nat->Nat}(R:Row a c (fk n B) 1)(g:j<n)(p:B j<256)(q:i<8)(s:a.load d 0 1=some [.bool false])(e:d≠c):
 Ret zB 89 [.pointer (some ⟨c,j,none⟩),.int .u8 ((2 ^i:Nat):Int),ptrTo d] a fun r k=>Mo (· =c) a k/\r=.bool true/\Row k c (fk n (fd B j (B j ^^^(B j&&& 2 ^i)))) 1:=by
 have S:=St.init1 m (o:=.row (fk n B) 1) R
 have l:=S.ld (b:=c) (o:=j) m0 (vP g)
 have t:=pow8 q
 refine ac (n:=19) (rs:=[.tmp 5]) rfl Tryz.e89 rfl rfl rfl (lbt rfl) ?_
 simp only [BS,LB,Nat.reduceLT,Nat.reduceEqDiff,F0n,l,wh p t]
 refine ax (av S (i:=0) rfl Tryz.t5.2.2.1 bZ (by rw [pg];exact g) ono) ?_
 clear S l;rintro h ⟨S,u⟩
 simp only [LC]at S
 rw [sX]at S
 have f:=S.old s e
 simp only [BS,LB,ae,Nat.reduceLT,Nat.reduceEqDiff,F0n,f]
 exact⟨S.fr,S.row m0⟩
def Tz(b a:Nat)(B:Nat->Nat):Prop:= ∀r i,b<=i->i/8<a->bitB B a r i=false
theorem bitB_clr{B:Nat->Nat}{a j k r i:Nat}(h:bitB B a r i=false):bitB (fd B j (B j ^^^(B j&&& 2 ^k))) a r i=false:=by
 unfold bitB fd at*
 split
 . rename_i e;rw [e]at h;rw [Nat.testBit_xor,Nat.testBit_and,h];rfl
 . exact h
theorem bSetZ_ok{y:Hp}(I:y.t.Sized y.n){A w l k d:Nat}{B:Nat->Nat}(m:hU y A w l k d B)(C:A≠w){r i:Nat}(O:r<l)(P:i<k)(s:l<=100)(t:k<=1000)(u:d=(k+7)/8)(x:Bool):
 Ret zB 32 [ptrTo A,.int .i64 (r:Nat),.int .i64 (i:Nat),.bool x] y fun v E=>Mo (· =w) y E/\ ∃Q,hU E A w l k d Q/\(Tz k d B->Tz k d Q):=by
 cases x with
 |true=>exact(bSet_ok I m C O P s t u).mono fun v E ⟨a,_,b⟩=>⟨a,_,b,fun z J K H F=>by
  rw [yh (by omega) F,if_neg (fun e=>by omega)];exact z J K H F⟩
 |false=>
 obtain⟨Z,n2,n3,n4,T,n6,U⟩:=us O P s t u
 have pl: ∀{h:Hp} {G:Nat},Gr y h->h.load G 0 1=some [.bool false]->G≠w->Ret zB 88 [ptrTo A,.int .i64 (r:Nat),.int .i64 (i:Nat),.func (.func 89) #[] #[ptrTo G]] h fun v E=>Mo (· =w) h E/\v=.bool true/\Row E w (fk (l*d) (fd B (r*d+i/8) (B (r*d+i/8) ^^^(B (r*d+i/8)&&& 2 ^(i%8))))) 1:=by
  intro h G g l7 h7
  have S:=Si g.ok
  have D:=m.gr g
  have c1: ¬(r:Int)<0:=by omega
  have c2: ¬(l:Int)<=(r:Int):=by omega
  have c3: ¬(i:Int)<0:=by omega
  have c4: ¬(k:Int)<=(i:Int):=by omega
  have l2:=D.r.load1 (o:=2) rfl
  have l3:=D.r.load1 (o:=3) rfl
  have zp:=D.r.lt g.ok
  refine ac (n:=46) (rs:=[.tmp 8]) rfl Tryz.e88 rfl rfl rfl (lbt rfl) ?_
  simp only [BS,LB,Nat.reduceLT,Nat.reduceEqDiff,c1]
  refine al (jR S.ok D.bits) ?_;intro H L;replace S:=S.call L
  simp only [BS,LB,Nat.reduceLT,Nat.reduceEqDiff,c2,c3]
  refine al (mi S.ok (D.gr L).bits) ?_;intro F V;replace S:=S.call V
  have p:=L.trans V
  have k2:=p.load l2
  have k3:=p.load l3
  simp only [BS,LB,Nat.reduceLT,Nat.reduceEqDiff,c4]
  refine ar (ay rfl) (q:=0) (ps:=[]) (by kernel_rfl) ?_
  simp only [BS,LB,cls,Nat.reduceLT,Nat.reduceEqDiff,Nat.reduceAdd,Nat.reducePow,Nat.reduceDiv,Nat.reduceMod,Nat.reduceLeDiff,F0W,k2,k3,Z,n2,n3,n4,T,jC (n:=8) (by decide),eP (n:=8) (by decide),b_shl8 U]
  refine c6 (clr1_ok S.ok (D.b.gr p) T (D.lt _) U (p.load l7) h7) ?_
  rintro v h3 ⟨W,rfl,R3⟩
  have vv:leaves F h3 A=true:=mC (W.get A (XC zp p.n) C)
  simp only [BS,LB,cls,ae,Nat.reduceLT,Nat.reduceEqDiff,Nat.reduceAdd,Nat.reducePow,Nat.reduceDiv,Nat.reduceMod,Nat.reduceLeDiff]
  exact⟨(p.fr (M:=(· =w))).trans W (fun c N=>.inl N),R3⟩
 have S:=Si I
 have zb:=m.b.lt I
 refine ac (n:=14) (rs:=[.tmp 8]) rfl Tryz.e32 rfl rfl rfl (lbt rfl) ?_
 simp only [BS,Nat.reduceLT]
 refine ag (cL (by exact oD)) S ?_;clear S;intro h G S X
 simp only [BS,LB,Nat.reduceLT,Nat.reduceEqDiff]
 have k7:=S.fr.n
 refine step_ret (pl S.gr (S.ld m0 rfl) (by omega)) ?_
 rintro v h ⟨f,rfl,R⟩
 simp only [BS,LB,Nat.reduceLT,Nat.reduceEqDiff]
 have Y:Mo (· =w) y h:=(S.gr.fr (M:=(· =w))).trans f (fun c N=>.inl N)
 refine⟨Y,_,⟨Y.has (o:=.row _ 1) m.r C,R,fun j=>?_⟩,fun z J K H F=>bitB_clr (z J K H F)⟩
 unfold fd
 split
 . exact XD (n:=8) (m.lt _) (XE XK (m.lt _))
 . exact m.lt _
def Tryz.FK:=aj t1<|aj t2<|aj t3<|aj t4<|aj t5<|aj t6<|aj Z1<|aj Z4<|aj t9<|aj t10<|aj t20<|aj t23<|t265
def Tryz.FL:=aj t1<|aj t2<|aj t3<|aj t4<|aj t5<|aj t6<|aj Z1<|aj Z4<|aj t9<|aj t10<|aj t20<|aj t42<|t265
theorem rep64_ok{a:Hp}(y:a.t.Sized a.n){v:Value}{x:Int}{N:Nat}(z:au a 1 (encI .i64) v [x])(d:1<=N)(A:N<1000):Ret zB 198 [v,.int .i64 N] a fun r t=>Gr a t/\ ∃b,r=.slice (some ⟨b,0,none⟩) N N/\a.n<=b/\Row t b (zM N (.int .i64 x)) 1:=by
 have S:=Si y
 have B: ¬((N:Int)<0):=by omega
 have C: ¬((9223372036854775807:Int)<(N:Int)):=by omega
 have D:am .u64 (N:Int)=(N:Int):=tV (by omega) (by omega)
 have E:am .u64 1=1:=rfl
 have F:am .i64 (N:Int)=(N:Int):=by rw [wrap64]<;>omega
 obtain⟨L,M,O,P,rfl,G,H⟩: ∃b o s c,v=.slice (some ⟨b,o,s⟩) 1 c/\1<=c/\a.load b o 1=some [.int .i64 x]:=by
  rcases z with⟨_,h⟩|⟨b,o,s,c,rfl,I,J⟩
  . cases h
  . exact⟨b,o,s,c,rfl,I,J⟩
 refine ac (n:=48) (rs:=[.tmp 4]) rfl Tryz.e198 rfl rfl rfl (lbt rfl) ?_
 simp only [BS,LB,cE,aN,cM,Nat.reduceLT,Nat.reduceEqDiff,zO,FK,B,D,E]
 refine al (mul_ok S.ok A) ?_;intro h g;replace S:=S.call g;clear g
 simp only [BS,LB,cE,aN,cM,Nat.reduceLT,Nat.reduceEqDiff,Int.reduceLT,FK,C,F]
 refine ag (m9 (by exact Tryz.t23.1) (by exact Tryz.e2E) (by omega) (by omega)) S ?_;clear S;intro h m S f
 rw [Xd,oX]at S
 simp only [BS,LB,Nat.reduceLT,Nat.reduceEqDiff,Xd]
 refine dX (S.copyO (i:=0) (l:=zM 1 (.int .i64 x)) rfl Tryz.t23.1 Tryz.t2.2.2.1 (by rw [iW d];decide) (by rw [iW d];exact S.old H (fun h=>h)) (by simp;omega) rfl) ?_
 clear S;rintro h w ⟨rfl,S⟩
 simp only [LC]at S
 rw [show zM N (Value.int .i64 0)=zM 0 (.int .i64 x)++zM N (.int .i64 0) by simp,rQ d]at S
 rw [iW d]
 simp only [BS,LB,Nat.reduceLT,Nat.reduceEqDiff,zO]
 refine aD (fun(n:Nat) p h=>1<=n/\n<=N/\St NoM a h [(m,.row (zM n (.int .i64 x)++zM (N-n) (.int .i64 0)) 1)] []/\p 7=.slice (some ⟨m,0,none⟩) N N/\p 8=.int .i64 n) (fun n=>N-n) ?_ 1 _ _ ?_
 . clear S
   intro n K p h ⟨hn1,hn,S,r7,r8⟩
   by_cases hlt:n<N
   . simp only [BS,LB,Nat.reduceLT,Nat.reduceEqDiff,FK,r7,r8,aq,hlt]
     refine ar (ay rfl) (q:=0) (ps:=[]) (by kernel_rfl) ?_
     simp only [BS,LB,cls,Nat.reduceLT,Nat.reduceEqDiff,Nat.reduceAdd,Nat.reducePow,Nat.reduceDiv,Nat.reduceMod,Nat.reduceLeDiff,XJ,X3,r7,r8,xO Tryz.t23.1 Tryz.t2.2.2.1 hlt,ww Tryz.t23.1 Tryz.t2.2.2.1 (XZ hlt)]
     have u:0<cU n (N-n):=by
      rcases X2 n (N-n)with h|h
      . rw [iW h];omega
      . rw [rJ h];omega
     have j:cU n (N-n)<=N-n/\cU n (N-n)<=n:=by
      rcases X2 n (N-n)with h|h
      . rw [iW h];omega
      . rw [rJ h];omega
     refine kJ (S.copyO (i:=0) (l:=zM (cU n (N-n)) (.int .i64 x)) rfl Tryz.t23.1 Tryz.t2.2.2.1 u ?_ (by simp;omega) (by simp;right;rfl)) ?_
     . rw [(S.row m0).load (by simp;omega),Xn,X7]
       congr 1
       rw [XL (by simp;omega),Yf]
       congr 1
       omega
     clear S;rintro h w ⟨rfl,S⟩
     simp only [LC]at S
     rw [rQ j.1]at S
     generalize cU n (N-n)=k at S u j
     have w:am .i64 ((n:Int)+(k:Int))=((n+k:Nat):Int):=by rw [wrap64]<;>omega
     simp only [BS,LB,cls,Nat.reduceLT,Nat.reduceEqDiff,Nat.reduceAdd,Nat.reducePow,Nat.reduceDiv,Nat.reduceMod,Nat.reduceLeDiff,w]
     exact K (n+k) _ _ (by omega) ⟨by omega,by omega,by rw [show N-(n+k)=N-n-k by omega];exact S,by simp [aa,r7],by simp [aa]⟩
   . simp only [BS,LB,ae,Nat.reduceLT,Nat.reduceEqDiff,FK,r7,r8,aq,hlt]
     have e:n=N:=by omega
     subst e
     have R:=S.row (b:=m) m0
     rw [Yk,Yg,XA]at R
     exact⟨S.gr,m,rfl,f,R⟩
 . exact⟨Xh _,d,by simpa using S,by simp [aa],by simp [aa]⟩
theorem repI_ok{a:Hp}(y:a.t.Sized a.n){v:Value}{x:Int}{N:Nat}(z:au a 1 (encI .i64) v [x])(d:1<=N)(A:N<1000):Ret zB 199 [v,.int .i64 N] a fun r t=>Gr a t/\ ∃b,r=.slice (some ⟨b,0,none⟩) N N/\a.n<=b/\Row t b (zM N (.int .i64 x)) 1:=by
 have S:=Si y
 have B: ¬((N:Int)<0):=by omega
 have C: ¬((9223372036854775807:Int)<(N:Int)):=by omega
 have D:am .u64 (N:Int)=(N:Int):=tV (by omega) (by omega)
 have E:am .u64 1=1:=rfl
 have F:am .i64 (N:Int)=(N:Int):=by rw [wrap64]<;>omega
 obtain⟨L,M,O,P,rfl,G,H⟩: ∃b o s c,v=.slice (some ⟨b,o,s⟩) 1 c/\1<=c/\a.load b o 1=some [.int .i64 x]:=by
  rcases z with⟨_,h⟩|⟨b,o,s,c,rfl,I,J⟩
  . cases h
  . exact⟨b,o,s,c,rfl,I,J⟩
 refine ac (n:=48) (rs:=[.tmp 4]) rfl Tryz.e199 rfl rfl rfl (lbt rfl) ?_
 simp only [BS,LB,cE,aN,cM,Nat.reduceLT,Nat.reduceEqDiff,zO,FL,B,D,E]
 refine al (mul_ok S.ok A) ?_;intro h g;replace S:=S.call g;clear g
 simp only [BS,LB,cE,aN,cM,Nat.reduceLT,Nat.reduceEqDiff,Int.reduceLT,FL,C,F]
 refine ag (m9 (by exact Tryz.t42.1) (by exact Yn) (by omega) (by omega)) S ?_;clear S;intro h m S f
 rw [Xd,oX]at S
 simp only [BS,LB,Nat.reduceLT,Nat.reduceEqDiff,Xd]
 refine dX (S.copyO (i:=0) (l:=zM 1 (.int .i64 x)) rfl Tryz.t42.1 Tryz.t3.2.2.1 (by rw [iW d];decide) (by rw [iW d];exact S.old H (fun h=>h)) (by simp;omega) rfl) ?_
 clear S;rintro h w ⟨rfl,S⟩
 simp only [LC]at S
 rw [show zM N (Value.int .i64 0)=zM 0 (.int .i64 x)++zM N (.int .i64 0) by simp,rQ d]at S
 rw [iW d]
 simp only [BS,LB,Nat.reduceLT,Nat.reduceEqDiff,zO]
 refine aD (fun(n:Nat) p h=>1<=n/\n<=N/\St NoM a h [(m,.row (zM n (.int .i64 x)++zM (N-n) (.int .i64 0)) 1)] []/\p 7=.slice (some ⟨m,0,none⟩) N N/\p 8=.int .i64 n) (fun n=>N-n) ?_ 1 _ _ ?_
 . clear S
   intro n K p h ⟨hn1,hn,S,r7,r8⟩
   by_cases hlt:n<N
   . simp only [BS,LB,Nat.reduceLT,Nat.reduceEqDiff,FL,r7,r8,aq,hlt]
     refine ar (ay rfl) (q:=0) (ps:=[]) (by kernel_rfl) ?_
     simp only [BS,LB,cls,Nat.reduceLT,Nat.reduceEqDiff,Nat.reduceAdd,Nat.reducePow,Nat.reduceDiv,Nat.reduceMod,Nat.reduceLeDiff,XJ,X3,r7,r8,xO Tryz.t42.1 Tryz.t3.2.2.1 hlt,ww Tryz.t42.1 Tryz.t3.2.2.1 (XZ hlt)]
     have u:0<cU n (N-n):=by
      rcases X2 n (N-n)with h|h
      . rw [iW h];omega
      . rw [rJ h];omega
     have j:cU n (N-n)<=N-n/\cU n (N-n)<=n:=by
      rcases X2 n (N-n)with h|h
      . rw [iW h];omega
      . rw [rJ h];omega
     refine kJ (S.copyO (i:=0) (l:=zM (cU n (N-n)) (.int .i64 x)) rfl Tryz.t42.1 Tryz.t3.2.2.1 u ?_ (by simp;omega) (by simp;right;rfl)) ?_
     . rw [(S.row m0).load (by simp;omega),Xn,X7]
       congr 1
       rw [XL (by simp;omega),Yf]
       congr 1
       omega
     clear S;rintro h w ⟨rfl,S⟩
     simp only [LC]at S
     rw [rQ j.1]at S
     generalize cU n (N-n)=k at S u j
     have w:am .i64 ((n:Int)+(k:Int))=((n+k:Nat):Int):=by rw [wrap64]<;>omega
     simp only [BS,LB,cls,Nat.reduceLT,Nat.reduceEqDiff,Nat.reduceAdd,Nat.reducePow,Nat.reduceDiv,Nat.reduceMod,Nat.reduceLeDiff,w]
     exact K (n+k) _ _ (by omega) ⟨by omega,by omega,by rw [show N-(n+k)=N-n-k by omega];exact S,by simp [aa,r7],by simp [aa]⟩
   . simp only [BS,LB,ae,Nat.reduceLT,Nat.reduceEqDiff,FL,r7,r8,aq,hlt]
     have e:n=N:=by omega
     subst e
     have R:=S.row (b:=m) m0
     rw [Yk,Yg,XA]at R
     exact⟨S.gr,m,rfl,f,R⟩
 . exact⟨Xh _,d,by simpa using S,by simp [aa],by simp [aa]⟩
def Tryz.Fz:=aj t1<|aj t2<|aj t3<|aj t4<|aj t5<|aj t29<|aj Z0<|aj t42<|aj Z3<|aj t92<|aj Z2<|aj t176<|t338
def oe(A:List Arc)(f:Arc->Nat)(a:List Nat):List (List Value):=a.map fun(id:Nat)=>[.int .i64 id,.agg ⟨cw ⟨0,f (A.getD id default),(A.getD id default).w⟩⟩]
theorem arcs_ok'{a:Hp}(l:a.t.Sized a.n){p j k:Value}(m:Fl p)(o:Fl j)(q:Fl k):Ret zB 202 [p,j,k] a fun v i=>Gr a i/\ ∃b c d,v=.func (.func 231) #[] #[ptrTo b,ptrTo c,ptrTo d]/\a.n<=b/\a.n<=c/\a.n<=d/\i.load b 0 1=some [j]/\i.load c 0 1=some [p]/\i.load d 0 1=some [k]:=by
 have S:=Si l
 refine ac (n:=8) (rs:=[.tmp 6]) rfl Tryz.e202 rfl rfl rfl (lbt rfl) ?_
 simp only [BS,Nat.reduceLT]
 refine ag (cL (by assumption)) S ?_;clear S;intro h c S e
 simp only [BS,Nat.reduceLT,Nat.reduceEqDiff,if_false]
 refine ag (cL (by assumption)) S ?_;clear S;intro h b S f
 simp only [BS,Nat.reduceLT,Nat.reduceEqDiff,if_false]
 refine ag (cL (by assumption)) S ?_;clear S;intro h d S g
 simp only [BS,LB,ae,Nat.reduceLT,Nat.reduceEqDiff]
 exact⟨S.gr,b,c,d,rfl,f,e,g,S.ld m1 rfl,S.ld m2 rfl,S.ld m0 rfl⟩
theorem arcs_it{hq k:Hp}(I:hq.t.Sized hq.n)(m:k.t.Sized k.n)(T:ey hq k)(U:hq.n<=k.n){p u:Value}{l:Gra}{M y z A:Nat}(V:bF hq M p l){d:List Nat}(N:au k 1 d7 u d)(B: ∀id∈d,id<l.arcs.length)(O:d.length<1000){g:FuncId}{f:Arc->Nat}(W:KeyF zB g f)
 (X:k.load y 0 1=some [u]) (e2:k.load z 0 1=some [p]) (e3:k.load A 0 1=some [.func (.func g) #[] #[]]):
 qK zB 231 [] [ptrTo y,ptrTo z,ptrTo A] k (fun c=>c=y\/c=z\/c=A\/ao u c\/c<hq.n) (oe l.arcs f d):=by
 intro lb J Z hz Y h F s G
 refine enter (n:=32) (rs:=[]) rfl Tryz.e231 rfl rfl rfl (lbt rfl) ?_
 have P:=s.load m X (.inl rfl)
 simp only [BS,LB,Nat.reduceLT,Fz,P,N.lenq]
 refine aD (fun(i:Nat) r h=>i<=d.length/\ ∃F,ItS k (fun c=>c=y\/c=z\/c=A\/ao u c\/c<hq.n) h F/\J i h F/\r 0=.func (.yield lb) #[] #[]/\r 1=ptrTo y/\r 2=ptrTo z/\r 3=ptrTo A/\r 9=u/\r 10=.int .i64 d.length/\r 11=.int .i64 i) (fun i=>d.length-i) ?_ 0 _ _ ?_
 . clear P
   intro i ih r h ⟨hi,F,s,G,r0,r1,r2,r3,r9,r10,r11⟩
   by_cases hlt:i<d.length
   . obtain⟨c,o,C,K⟩:=(s.sl m N (fun b h=>.inr (.inr (.inr (.inl h))))).ix (kd:=.i64) fU hlt
     have l2:=s.load m e2 (.inr (.inl rfl))
     have l3:=s.load m e3 (.inr (.inr (.inl rfl)))
     have D:=B _ (XY hlt)
     have nt:bF h M p l:=V.keep I (s.keep T U (fun c hc=>.inr (.inr (.inr (.inr hc)))))
     have w:am .i64 ((i:Int)+1)=((i+1:Nat):Int):=by rw [wrap64]<;>omega
     have S:=Si s.ok
     simp only [BS,LB,Nat.reduceLT,Nat.reduceEqDiff,Fz,r2,r9,r10,r11,aq,hlt,C,K,d7,l2]
     refine step_ret (py S.ok nt D) ?_
     rintro v h2 ⟨t,rfl⟩
     replace S:=S.call t;clear t
     simp only [BS,LB,Nat.reduceLT,Nat.reduceEqDiff,Fz]
     refine ag aw S ?_;clear S;intro h L S Q
     simp only [BS,LB,Nat.reduceLT,Nat.reduceEqDiff,cw]
     refine ax (S.store (i:=0) rfl ?_ ?_ rfl rfl ?_ ono) ?_
     . exact(by exact Tryz.t46.2.1)
     . exact(by intro x e;cases e)
     . exact lbt rfl
     clear S;rintro h ⟨S,mo⟩;clear mo;simp only [LC,ah,lay,Xq,Xr,Nat.reduceAdd]at S
     simp only [BS,LB,Nat.reduceLT,Nat.reduceEqDiff]
     refine ar (ay rfl) (q:=0) (ps:=[(4,6)]) (by kernel_rfl) ?_
     simp only [BS,LB,cls,Nat.reduceLT,Nat.reduceEqDiff,Nat.reduceAdd,Nat.reducePow,Nat.reduceDiv,Nat.reduceMod,Nat.reduceLeDiff,Fz,r0,r3,S.old l3 (fun h=>h),S.lds (b:=L) (o:=0) (n:=3) m0 (lbt rfl)]
     have E:=(S.row (b:=L) m0).lt S.ok
     refine fP (W _ l.arcs[d[i]] S.ok) ?_
     intro R t
     have H:=aK t E
     replace S:=S.call t;clear t
     simp only [BS,LB,cls,Nat.reduceLT,Nat.reduceEqDiff,Nat.reduceAdd,Nat.reducePow,Nat.reduceDiv,Nat.reduceMod,Nat.reduceLeDiff,Fz,S.ld (b:=L) (o:=2) m0 rfl]
     have gd:l.arcs.getD d[i] default=l.arcs[d[i]]:=by simp [XQ,D]
     have hx:(oe l.arcs f d)[i]? =some [.int .i64 (d[i]:Nat),.agg ⟨[.int .i64 0,.int .i64 (f l.arcs[d[i]]:Nat),.int .i64 (l.arcs[d[i]].w:Nat)]⟩]:=by
      unfold oe
      rw [XS,XX hlt]
      simp only [XJ,gd]
      rfl
     refine dn_yield hz Y (s.gr S.gr) (Y.gr _ _ _ _ G S.gr) (j:=i) hx ?_ ?_
     . intro R F' a s' _ _
       simp only [BS,LB,cls,Nat.reduceLT,Nat.reduceEqDiff,Nat.reduceAdd,Nat.reducePow,Nat.reduceDiv,Nat.reduceMod,Nat.reduceLeDiff,r11,w]
       refine⟨by simp only [bQ,bW,bE,cd,bM,ne_eq,not_false_eq_true,ce,cB,bO,bN,cy,dr,bK,Nat.reduceLT,Nat.reduceEqDiff,reduceIte,XP,r0,r1,r2,r3,ab,bJ H,aQ H],?_⟩
       exact ih (i+1) _ _ (by omega) ⟨by omega,F',s',a,by simp [aa,r0],by simp [aa,r1,ab],by simp [aa,r2,ab],by simp [aa,r3,ab],by simp [aa,r9],by simp [aa,r10],by simp [aa]⟩
     . intro R a _
       simp only [BS,LB,cls,Nat.reduceLT,Nat.reduceEqDiff,Nat.reduceAdd,Nat.reducePow,Nat.reduceDiv,Nat.reduceMod,Nat.reduceLeDiff]
       refine⟨by simp only [bQ,bW,bE,cd,bM,ne_eq,not_false_eq_true,ce,cB,bO,bN,cy,dr,bK,Nat.reduceLT,Nat.reduceEqDiff,reduceIte,XP,r0,r1,r2,r3,ab,bJ H,aQ H],?_⟩
       exact gy rfl ⟨rfl,.inr (.inl ⟨_,rfl,a⟩)⟩
   . simp only [BS,LB,Nat.reduceLT,r10,r11,aq,hlt]
     have:i=d.length:=by omega
     subst this
     exact dZ (dV ⟨rfl,_,rfl,rfl,.inl ⟨_,F,rfl,by simpa [oe]using G⟩⟩)
 . exact⟨by omega,F,s,G,by simp [aa,cD],by simp [aa,cD,ab],by simp [aa,cD,ab],by simp [aa,cD,ab],by simp [aa],by simp [aa],by simp [aa]⟩
def Tryz.Fk:=aj t1<|aj t2<|aj t3<|aj t4<|aj t5<|aj t23<|aj t42<|aj t51<|aj t167<|aj Z17<|aj t280<|aj t281<|aj t286<|aj r286<|aj Z9<|Z14
theorem ints_set(l:List Int)(i:Nat)(x:Int):(ints l).set i (.int .i64 x)=ints (l.set i x):=by
 have a: ∀l:List Int,ints l=l.map fun x=>Value.int .i64 x:=fun l=>by
  unfold ints;rw [Xu,Ye,Xu];rfl
 rw [a,a,List.map_set]
theorem reach_ok{j:Hp}(ok:j.t.Sized j.n){E d J c N v arc far:Nat}{p W vO:Value}{F:List Nat}{K:Nat->Option Int}{O:List Nat}{X:List (Value×Value×Nat)}{f:Int->Option Value}{l:List Int}
 (R:Row j E [p,W,.slice (some ⟨d,0,none⟩) N N,vO,.map (some J)] 1) (H:dC j F p N K) (hN:N<=1000) (a:j.get J=some (.map X c)) (MI:dy X c f) (CF:ClF O f) (u:Row j d (ints l) 1) (G:l.length=N) (L:v<N)
 (U:d∉F) (d2:E∉F) (d3:E≠d):
 Ret zB 203 [ptrTo E,.int .i64 v,.int .i64 arc,.int .i64 far] j fun _ Y=>Mo (fun c=>c∈F\/c=d) j Y/\ ∃F' q,dC Y F' p N (iA O K v far)/\(∀b∈F',b∈F\/j.n<=b)/\Row Y d (ints q) 1/\q.length=N/\((iA O K v far=K/\q=l)\/(v∉O/\iA O K v far=d9 K v (some (far:Int))/\q=l.set v arc)):=by
 have S:=Si ok
 have ad:=u.lt ok
 have M:=R.load1 (o:=0) rfl
 have I:=R.load1 (o:=4) rfl
 have l2:=R.load1 (o:=2) rfl
 have pp: ∃b,p=ptrTo b:=by obtain⟨b,_,_,e,_⟩:=H.ex;exact⟨b,e⟩
 obtain⟨bp,rfl⟩:=pp
 refine ac (n:=59) (rs:=[]) rfl Tryz.e203 rfl rfl rfl (lbt rfl) ?_
 simp only [BS,LB,Nat.reduceLT,Nat.reduceEqDiff,Fk,M]
 refine al (AD S.ok H) ?_
 intro h g;replace S:=S.call g;clear g
 replace a:h.get J=some (.map X c):=S.gr.at a
 have V:=H.gr S.gr
 have A:=sg (x:=(v:Int)) Tryz.t167.1 Tryz.t3.1 (z:=.int .i64 0) (by kernel_rfl) a MI
 rw [CF v]at A
 replace M:=S.old M (fun h=>h)
 replace I:=S.old I (fun h=>h)
 replace l2:=S.old l2 (fun h=>h)
 replace u:Row h d (ints l) 1:=u.gr S.gr
 have R1:=R.gr S.gr
 have w:=S.gr
 by_cases s:v∈O
 . rw [if_pos s,Xw]at A
   simp only [BS,LB,Nat.reduceLT,Nat.reduceEqDiff,Int.reduceLT,Fk,I,A]
   exact⟨w.fr,F,l,by unfold iA;rw [if_pos s];exact V,fun b m=>.inl m,u,G,.inl ⟨by unfold iA;rw [if_pos s],rfl⟩⟩
 . rw [if_neg s,Xv]at A
   have af:=u.lt w.ok
   cases P:K v with
   | none=>
     have y:iA O K v far=d9 K v (some (far:Int)):=by unfold iA;rw [if_neg s,P]
     simp only [BS,LB,Nat.reduceLT,Nat.reduceEqDiff,Int.reduceLT,Fk,M,I,A,Xv,Xc]
     refine step_ret (sI w.ok V L hN P) ?_
     rintro r B ⟨t,F',Z,Q⟩
     have C:Row B d (ints l) 1:=t.has (o:=.row _ 1) u U
     have r2:Row B E [ptrTo bp,W,.slice (some ⟨d,0,none⟩) N N,vO,.map (some J)] 1:=t.has (o:=.row _ 1) R1 d2
     have D:=r2.load1 (o:=2) rfl
     have S:=St.init1 t.ok (o:=.row _ 1) C
     simp only [BS,LB,Nat.reduceLT,Nat.reduceEqDiff,Nat.reduceAdd,Fk,D,L]
     refine ax (av S (i:=0) rfl Tryz.t3.2.2.1 bZ (by rw [bD,G];exact L) ono) ?_
     clear S;rintro h3 ⟨S,T⟩
     simp only [LC]at S
     rw [ints_set]at S
     simp only [BS]
     refine⟨(w.fr.trans (t.mono (fun c a=>.inl a)) (fun c a=>.inl a):Mo (fun c=>c∈F\/c=d) j B).trans T (fun c a=>.inl (.inr a)),F',l.set v arc,by rw [y];exact Z.mo T (fun b m e=>by subst e;rcases Q b m with h|h;exact U h;omega),fun b m=>(Q b m).imp (fun h=>h) (fun h=>Xe w.n h),S.row m0,by rw [Xi];exact G,.inr ⟨s,y,rfl⟩⟩
   | some k=>
     by_cases hle:k<=(far:Int)
     . have y:iA O K v far=K:=by unfold iA;rw [if_neg s,P];simp only [];rw [if_pos hle]
       simp only [BS,LB,Nat.reduceLT,Nat.reduceEqDiff,Int.reduceLT,Fk,I,A,hle,Xw]
       exact⟨w.fr,F,l,by rw [y];exact V,fun b m=>.inl m,u,G,.inl ⟨y,rfl⟩⟩
     . have y:iA O K v far=d9 K v (some (far:Int)):=by unfold iA;rw [if_neg s,P];simp only [];rw [if_neg hle]
       simp only [BS,LB,Nat.reduceLT,Nat.reduceEqDiff,Int.reduceLT,Fk,M,I,A,hle,Xw]
       refine step_ret (yi w.ok V hN P (by omega)) ?_
       rintro r B ⟨t,Z⟩
       have C:Row B d (ints l) 1:=t.has (o:=.row _ 1) u U
       have r2:Row B E [ptrTo bp,W,.slice (some ⟨d,0,none⟩) N N,vO,.map (some J)] 1:=t.has (o:=.row _ 1) R1 d2
       have D:=r2.load1 (o:=2) rfl
       have S:=St.init1 t.ok (o:=.row _ 1) C
       simp only [BS,LB,Nat.reduceLT,Nat.reduceEqDiff,Nat.reduceAdd,Fk,D,L]
       refine ax (av S (i:=0) rfl Tryz.t3.2.2.1 bZ (by rw [bD,G];exact L) ono) ?_
       clear S;rintro h3 ⟨S,T⟩
       simp only [LC]at S
       rw [ints_set]at S
       simp only [BS]
       refine⟨(w.fr.trans (t.mono (fun c a=>.inl a)) (fun c a=>.inl a):Mo (fun c=>c∈F\/c=d) j B).trans T (fun c a=>.inl (.inr a)),F,l.set v arc,by rw [y];exact Z.mo T (fun b m e=>by subst e;exact U m),fun b m=>.inl m,S.row m0,by rw [Xi];exact G,.inr ⟨s,y,rfl⟩⟩
end Go.Ab
end

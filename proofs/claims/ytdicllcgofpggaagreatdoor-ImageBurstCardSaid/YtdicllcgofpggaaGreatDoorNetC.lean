/- Nets, cells, flags: what the functions do (part 3). -/
import Derived.Test.YtdicllcgofpggaaGreatDoorNetB
open Go.Ab.Tryz
open Go.Ab.Tryz renaming abEnv->zB,F0->XG,e3E->XW,e328E->Yj
open List renaming replicate->zM,range->zO,mem_of_getElem?->Xd,flatMap_eq_foldl->Xf,getD_eq_getElem?_getD->Xg,take->Xi,drop->Xj,take_of_length_le->Xo,take_succ_eq_append_getElem->Xp,getElem?_eq_getElem->Xr,length_range->Xs,map_cons->Xt,getElem?_replicate->Xu,length_set->Xw,drop_zero->Xx,length_take->Xy,getElem_mem->XA,nodup_cons->XC,length_append->XD,cons_append->XF,mem_cons_of_mem->XI,mem_cons->XJ,getElem?_append_right->XL,map_eq_flatMap->XM,length_map->XN,append_nil->XO,ext_getElem?->XP,getElem?_map->XQ,length_replicate->XS,take_append_of_le_length->XU,take_succ_cons->XV,filterMap_nil->XY,nodup_append->X4,drop_eq_getElem_cons->X5,sublist_cons_self->Yd,mem_append_right->Yf,length_singleton->Yh,getElem?_append->Yl,getElem?_range->Yn,take_replicate->Yo,replicate_zero->Yp,map_nil->Yu
open Nat renaming le_trans->Xa,lt_of_succ_le->Xc,ble_eq_true_of_le->Xe,le_refl->Xh,zero_add->Xm,mul_one->Xn,zero_mul->Xq,one_mul->XE,beq->XR,ble->XX,lt_of_lt_of_le->XZ,xor_lt_two_pow->X2,lt_of_le_of_lt->X3,blt_eq->X6,blt->X7,le_of_lt->X8,le_total->X9,min_eq_left->Yb,and_le_left->Yc,eq_of_beq_eq_true->Ye,mul_le_mul->Yg,land->Yk,mul_le_mul_right->Ym,beq_refl->Yq,sub_zero->Ys,sub_self->Yt,add_zero->Yv
open Int renaming cast_ofNat_Int->Xb,toNat_natCast->Xl,tdiv_eq_ediv_of_nonneg->XK,ofNat_eq_natCast->Yi,ofNat->Yr
open Option renaming isSome_none->Xk,getD_none->Xz,getD_some->XH,map_some->XT,map_none->Ya
open Prod renaming fst->Xv
open Bool renaming and_true->XB
set_option maxHeartbeats 4000000
set_option linter.defProp false
set_option linter.unusedVariables false
set_option linter.unusedSimpArgs false
section
namespace Go.Ab
def EM(l:List (Int×Value×Nat)):List (Value×Value×Nat):=l.map fun p=>(.int .i64 p.1,p.2.1,p.2.2)
def en(f:Int->Option Value)(x:Int)(v:Option Value):Int->Option Value:=fun y=>if y=x then v else f y
def dT(a:List (Value×Value×Nat))(c:Nat)(f:Int->Option Value):Prop:=
 ∃l,a=EM l/\(l.map Xv).Nodup/\(l.map fun p=>p.2.2).Nodup/\(∀p∈l,p.2.2<c)/\ ∀x v,f x=some v↔ ∃n,(x,v,n)∈l
theorem uM{x y:Int}:cd (.int .i64 x) (.int .i64 y)=some (decide (x=y)):=by show some (iI x y)=_;congr 1;rw [mY]
theorem Bo{l:List (Int×Value×Nat)}(a:(l.map Xv).Nodup){x:Int}{v:Value}{n:Nat}(h:(x,v,n)∈l):a9 (.int .i64 x) (EM l)=some (some (v,n)):=by
 induction l with
 |nil=>cases h
 | cons p l b=>
   obtain⟨y,w,m⟩:=p;show(match cd (.int .i64 x) (.int .i64 y)with|none=>none|some true=>some (some (w,m))|some false=>a9 (.int .i64 x) (EM l))=_;rw [uM];grind
theorem find_miss{l:List (Int×Value×Nat)}{x:Int}(h:x∉l.map Xv):a9 (.int .i64 x) (EM l)=some none:=by
 induction l with
 |nil=>rfl| cons p l a=>
   obtain⟨y,w,m⟩:=p;show(match cd (.int .i64 x) (.int .i64 y)with|none=>none|some true=>some (some (w,m))|some false=>a9 (.int .i64 x) (EM l))=_;simp_all[uM,Xt,XJ,not_or,decide_eq_false]
theorem tO{l:List (Int×Value×Nat)}(c:(l.map Xv).Nodup){x:Int}{v:Value}{n:Nat}(h:(x,v,n)∈l):
 ∃a b,l=a++(x,v,n)::b/\(∀w,jj (.int .i64 x) w (EM l)=EM (a++(x,w,n)::b))/\kj (.int .i64 x) (EM l)=EM (a++b):=by
 induction l with
 |nil=>cases h
 | cons p l d=>
   obtain⟨y,w,m⟩:=p;rw [Xt,XC]at c;by_cases e:x=y
   . subst e;rcases List.mem_cons.1 h with h|h
     . cases h;refine⟨[],l,rfl,fun u=>?_,?_⟩
       . show(match cd (.int .i64 x) (.int .i64 x)with|some true=>_|_=>_)=_;rw [uM,decide_eq_true rfl];rfl
       . show(match cd (.int .i64 x) (.int .i64 x)with|some true=>_|_=>_)=_;rw [uM,decide_eq_true rfl];rfl
     grind
   . rcases List.mem_cons.1 h with h|h
     . grind
     grind[cd,jj,EM,uM,decide_eq_false,kj]
theorem uX{a b:List (Int×Value×Nat)}{x:Int}{v w:Value}{n:Nat}(c:((a++(x,v,n)::b).map fun p=>p.2.2).Nodup):iU n w (EM (a++(x,v,n)::b))=some (EM (a++(x,w,n)::b)):=by
 induction a with
 | nil=>
   show(bif XR n n then _ else _)=_;rw [Yq];rfl
 | cons p a d=>
   obtain⟨y,u,m⟩:=p;rw [XF,Xt,XC]at c;grind[XR,Ye,absurd,iU,EM]
theorem fst_app{a b:List (Int×Value×Nat)}{x:Int}{v:Value}{n:Nat}:(a++(x,v,n)::b).map Xv=a.map Xv++x::b.map Xv:=by simp
section
variable{es:List (Value×Value×Nat)}{c:Nat}{f:Int->Option Value}{x:Int}
theorem vj:dT [] 0 (fun _=>none):=⟨[],rfl,.nil,.nil,fun _ h=>(by cases h),fun x v=>⟨fun h=>(by cases h),fun⟨_,h⟩=>(by cases h)⟩⟩
theorem dT.hit(h:dT es c f){v:Value}(hf:f x=some v): ∃n,a9 (.int .i64 x) es=some (some (v,n)):=by obtain⟨l,rfl,a,b,d,e⟩:=h;grind[hf,Bo]
theorem dT.miss(h:dT es c f)(hf:f x=none):a9 (.int .i64 x) es=some none:=by obtain⟨l,rfl,e,g,i,a⟩:=h;refine find_miss fun b=>?_;obtain⟨⟨y,v,n⟩,d,rfl⟩:=List.mem_map.1 b;have:=(a y v).2 ⟨n,d⟩;grind
theorem vV{a b:List (Int×Value×Nat)}{v w:Value}{n:Nat}(e:((a++(x,v,n)::b).map Xv).Nodup)(j:((a++(x,v,n)::b).map fun p=>p.2.2).Nodup)(g: ∀p∈a++(x,v,n)::b,p.2.2<c)
 (k: ∀x' v',f x'=some v'↔ ∃h,(x',v',h)∈a++(x,v,n)::b):dT (EM (a++(x,w,n)::b)) c (en f x (some w)):=by
 have i:=e;rw [fst_app,X4]at i;refine⟨_,rfl,by grind,by grind,fun p d=>?_,fun y u=>?_⟩
 . rcases List.mem_append.1 d with d|d
   . grind
   . rcases List.mem_cons.1 d with rfl|d
     . exact g (x,v,n) (by simp)
     grind
 . unfold en;grind
theorem wo{l:List (Int×Value×Nat)}{w:Value}(g:(l.map Xv).Nodup)(h:(l.map fun p=>p.2.2).Nodup)(i: ∀p∈l,p.2.2<c)(b: ∀x' v',f x'=some v'↔ ∃d,(x',v',d)∈l)(hf:f x=none):
 dT (EM (l++[(x,w,c)])) (c+1) (en f x (some w)):=by
 have j:x∉l.map Xv:=fun e=>by obtain⟨⟨y,v,n⟩,a,rfl⟩:=List.mem_map.1 e;have:=(b y v).2 ⟨n,a⟩;grind
 refine⟨_,rfl,?_,?_,fun p a=>?_,fun y u=>?_⟩
 . grind
 . grind
 . grind
 . unfold en;grind
theorem em_app(l:List (Int×Value×Nat))(v:Value)(n:Nat):EM l++[(.int .i64 x,v,n)]=EM (l++[(x,v,n)]):=by unfold EM;grind
theorem dT.put(h:dT es c f)(v:Value): ∃es' c',(match a9 (.int .i64 x) es with|none=>none|some (some _)=>some (jj (.int .i64 x) v es,c)|some none=>some (es++[(.int .i64 x,v,c)],c+1))=some (es',c')/\dT es' c' (en f x (some v)):=by
 cases hf:f x with
 | none=>
   rw [h.miss hf];obtain⟨l,rfl,d,i,j,g⟩:=h;exact⟨_,_,rfl,by rw [em_app];exact wo d i j g hf⟩
 | some w=>
   obtain⟨n,e⟩:=h.hit hf;rw [e];obtain⟨l,rfl,d,i,j,g⟩:=h;obtain⟨m,k⟩:=(g x w).1 hf;obtain⟨a,b,rfl,o,_⟩:=tO d k;exact⟨_,_,rfl,by rw [o];exact vV d i j g⟩
theorem del_miss{l:List (Int×Value×Nat)}(h:x∉l.map Xv):kj (.int .i64 x) (EM l)=EM l:=by
 induction l with
 |nil=>rfl| cons p l a=>
   obtain⟨y,w,m⟩:=p;simp only [Xt,XJ,not_or]at h;grind[cd,kj,EM,uM,decide_eq_false]
theorem dT.del(h:dT es c f):dT (kj (.int .i64 x) es) c (en f x none):=by
 obtain⟨l,rfl,d,o,g,i⟩:=h;cases hf:f x with
 | none=>
   have q:x∉l.map Xv:=fun e=>(by obtain⟨⟨y,v,n⟩,j,rfl⟩:=List.mem_map.1 e;have:=(i y v).2 ⟨n,j⟩;grind);rw [del_miss q];refine⟨l,rfl,d,o,g,fun y u=>?_⟩;unfold en;grind
 | some w=>
   obtain⟨m,e⟩:=(i x w).1 hf;obtain⟨a,b,rfl,_,r⟩:=tO d e;rw [r];have k:=d;rw [fst_app,X4]at k;obtain⟨t,s,z⟩:=k;rw [XC]at s;refine⟨a++b,rfl,?_,?_,fun p j=>g p ?_,fun y u=>?_⟩
   . grind
   . grind
   . grind
   . unfold en;grind
theorem dT.ent(h:dT es c f)(z:Value): ∃d q n,(match a9 (.int .i64 x) es with|none=>none|some (some (v,n))=>some (jj (.int .i64 x) v es,c,v,n)|some none=>some (es++[(.int .i64 x,z,c)],c+1,z,c))=some (d,q,(f x).getD z,n)/\dT d q (en f x (some ((f x).getD z)))/\
 ∀w,∃es2,iU n w d=some es2/\dT es2 q (en f x (some w)):=by
 cases hf:f x with
 | none=>
   rw [h.miss hf];obtain⟨l,rfl,g,i,o,j⟩:=h;have k:=wo (w:=z) g i o j hf;refine⟨_,_,_,rfl,by rw [em_app];exact k,fun w=>?_⟩;rw [em_app];obtain⟨u,e,y,A,B,C⟩:=k;have t:((l++(x,z,c)::[]).map fun p=>p.2.2).Nodup:=(by grind);exact⟨_,uX t,wo g i o j hf⟩
 | some v=>
   obtain⟨l,rfl,g,i,o,j⟩:=h;obtain⟨m,r⟩:=(j x v).1 hf;rw [Bo g r];obtain⟨a,b,rfl,s,_⟩:=tO g r;refine⟨_,_,_,rfl,by rw [s];exact vV g i o j,fun w=>?_⟩;rw [s];exact⟨_,uX (by simpa using i),vV g i o j⟩
end

section
variable{M:Nat->Prop}{h0 h:Hp}{L:List (Nat×Ob)}{G:List GL}{E:Env}{t kt el:TypeId}{b c:Nat}{es:List (Value×Value×Nat)}{f:Int->Option Value}{x:Int}
theorem tT(a:E.und kt=some (.int .i64)):bE E kt (.int .i64 x)=true:=by simp only [bE,a];rfl
theorem sj(a:E.und t=some (.map kt el))(d:E.und kt=some (.int .i64)){z:Value}(g:E.zeroV el=some z)(i:h.get b=some (.map es c))(m:dT es c f):
 dC E h t (.map (some b)) (.int .i64 x) true=some (.tuple #[(f x).getD z,.bool (f x).isSome]):=by
 simp only [dC,a,tT d,cond_true,i];cases hf:f x with
 |none=>rw [m.miss hf];simp [g]|some v=>obtain⟨n,e⟩:=m.hit hf;rw [e];simp
theorem uK(a:E.und t=some (.map kt el))(d:E.und kt=some (.int .i64)){z:Value}(g:E.zeroV el=some z)(i:h.get b=some (.map es c))(m:dT es c f):
 dC E h t (.map (some b)) (.int .i64 x) false=some ((f x).getD z):=by
 simp only [dC,a,tT d,cond_true,i];cases hf:f x with
 |none=>rw [m.miss hf];simp [g]|some v=>obtain⟨n,e⟩:=m.hit hf;rw [e];simp
theorem pZ{x:Blk}{es':List (Value×Value×Nat)}{c':Nat}(a:h.get b=some x):(h.put b (.map es' c')).get b=some (.map es' c'):=by rw [Hp.get_put,if_pos ⟨rfl,by rw [a];rfl⟩]
theorem St.mputI(S:St M h0 h L G){i:Nat}(d:L[i]? =some (b,.map es c))(g:E.und t=some (.map kt el))(j:E.und kt=some (.int .i64))(m:dT es c f)(v:Value):
 ∃a,dY E h t (.map (some b)) (.int .i64 x) v=some a/\Mo (· =b) h a/\ ∃es' c',dT es' c' (en f x (some v))/\St M h0 a (L.set i (b,.map es' c')) G:=by
 have e:h.get b=some (.map es c):=(S.own _ (Xd d)).2;obtain⟨es',c',l,k⟩:=m.put (x:=x) v;refine⟨h.put b (.map es' c'),?_,(Mo.refl (M:=(· =b)) S.ok).put (.inr rfl) _,es',c',k,S.put d (o':=.map es' c') (pZ e)⟩;simp only [dY,jy,g,tT j,cond_true,e];grind
theorem St.mdelI(S:St M h0 h L G){i:Nat}(d:L[i]? =some (b,.map es c))(j:E.und t=some (.map kt el))(k:E.und kt=some (.int .i64))(m:dT es c f):
 ∃a,mR E h t (.map (some b)) (.int .i64 x)=some a/\Mo (· =b) h a/\ ∃es' c',dT es' c' (en f x none)/\St M h0 a (L.set i (b,.map es' c')) G:=by
 have g:h.get b=some (.map es c):=(S.own _ (Xd d)).2;refine⟨h.put b (.map (kj (.int .i64 x) es) c),?_,(Mo.refl (M:=(· =b)) S.ok).put (.inr rfl) _,_,c,m.del (x:=x),S.put d (o':=.map _ c) (pZ g)⟩;simp only [mR,jy,j,tT k,cond_true,g];cases hf:f x with
 |none=>rw [m.miss hf]|some v=>obtain⟨n,e⟩:=m.hit hf;rw [e]
theorem St.mentI(S:St M h0 h L G){i:Nat}(d:L[i]? =some (b,.map es c))(g:E.und t=some (.map kt el))(j:E.und kt=some (.int .i64)){z:Value}(k:E.zeroV el=some z)(m:dT es c f):
 ∃ a n,jM E h t (.map (some b)) (.int .i64 x)=some (a,.tuple #[(f x).getD z,.int .i64 (Yr n)])/\Mo (· =b) h a/\ ∃es' c',dT es' c' (en f x (some ((f x).getD z)))/\St M h0 a (L.set i (b,.map es' c')) G/\
   ∀w,∃es2,iU n w es'=some es2/\dT es2 c' (en f x (some w)):=by
 have e:h.get b=some (.map es c):=(S.own _ (Xd d)).2;obtain⟨es',c',n,p,l,o⟩:=m.ent (x:=x) z;refine⟨h.put b (.map es' c'),n,?_,(Mo.refl (M:=(· =b)) S.ok).put (.inr rfl) _,es',c',l,S.put d (o':=.map es' c') (pZ e),o⟩;simp only [jM,jy,g,tT j,cond_true,e,k];grind
theorem St.mstoreI(S:St M h0 h L G){i n:Nat}(d:L[i]? =some (b,.map es c)){w:Value}{es2:List (Value×Value×Nat)}(g:iU n w es=some es2):
 ∃a,mg h (.map (some b)) (.int .i64 (Yr n)) w=some a/\Mo (· =b) h a/\St M h0 a (L.set i (b,.map es2 c)) G:=by
 have e:h.get b=some (.map es c):=(S.own _ (Xd d)).2;refine⟨h.put b (.map es2 c),?_,(Mo.refl (M:=(· =b)) S.ok).put (.inr rfl) _,S.put d (o':=.map es2 c) (pZ e)⟩;simp only [mg,e,fm,g]
end
end Go.Ab

end
section
namespace Go.Ab
def lJ(x:Hd):List Value:=[.int .i64 x.id,.int .i64 x.key]
theorem ku(x:Hd):(lJ x).length=2:=rfl
structure d6(cs:List Value)(cap:Nat)(l:List Hd):Prop where
 len:cs.length=cap*2
 le:l.length<=cap
 at0: ∀i,i<l.length->cs[i*2]? =some (.int .i64 (l.getD i default).id)/\cs[i*2+1]? =some (.int .i64 (l.getD i default).key)
def kr(f:Int->Option Value)(l:List Hd):Prop:=(∀i,i<l.length->f (l.getD i default).id=some (.int .i64 i))/\ ∀x v,f x=some v-> ∃i,i<l.length/\x=(l.getD i default).id
section
variable{h:Hp}{bl cap i:Nat}{cs:List Value}{l:List Hd}{md:Nat}
theorem d6.ld0(c:d6 cs cap l)(r:Row h bl cs md)(a:i<l.length):h.load bl (i*2) 1=some [.int .i64 (l.getD i default).id]:=r.load1 (c.at0 i a).1
theorem d6.ld1(c:d6 cs cap l)(r:Row h bl cs md)(a:i<l.length):h.load bl (i*2+1) 1=some [.int .i64 (l.getD i default).key]:=r.load1 (c.at0 i a).2
theorem d6.ld2(c:d6 cs cap l)(r:Row h bl cs md)(a:i<l.length):h.load bl (i*2) 2=some [.int .i64 (l.getD i default).id,.int .i64 (l.getD i default).key]:=by have d:=(c.at0 i a).1;have b:=(c.at0 i a).2;have e:=(List.getElem?_eq_some_iff.1 b).1;rw [r.load (by omega)];grind[X5,List.getElem?_eq_some_iff]
theorem we{x y:Value}(a:i*2+2<=cs.length)(j:Nat):(lay cs (i*2) [x,y])[j]? =if j=i*2 then some x else if j=i*2+1 then some y else cs[j]? :=by rw [jO (by simpa using a)];grind
theorem d6.set(c:d6 cs cap l)(d:i<l.length)(x:Hd):d6 (lay cs (i*2) [.int .i64 x.id,.int .i64 x.key]) cap (l.set i x):=by
 have f:=c.len;have hle:=c.le;have a:i*2+2<=cs.length:=by omega
 refine⟨by grind[pS],by grind,fun j b=>?_⟩;rw [Xw]at b;rw [we a,we a,qo];by_cases e:i=j
 . grind
 . rw [if_neg (by omega),if_neg (by omega),if_neg (by omega),if_neg (by omega),if_neg (by omega)];exact c.at0 j b
theorem d6.setKey(c:d6 cs cap l)(a:i<l.length)(k:Int):d6 (lay cs (i*2+1) [.int .i64 k]) cap (l.set i ⟨(l.getD i default).id,k⟩):=by
 have d:=c.len;have hle:=c.le;have e:lay cs (i*2+1) [.int .i64 k]=lay cs (i*2) [.int .i64 (l.getD i default).id,.int .i64 k]:=by
  refine XP fun j=>?_;rw [we (by omega),jO (by simp;omega)];simp only [List.length_cons,List.length_nil];by_cases b:j=i*2
  . subst b;rw [if_neg (by omega),if_pos rfl];exact(c.at0 i a).1
  grind
 rw [e];exact c.set a ⟨(l.getD i default).id,k⟩
end
theorem set_sw(l:List Hd)(i k:Nat):(l.set i (l.getD k default)).set k (l.getD i default)=sw l i k:=rfl
theorem kr.inj{f:Int->Option Value}{l:List Hd}(h:kr f l){i j:Nat}(a:i<l.length)(b:j<l.length)(e:(l.getD i default).id=(l.getD j default).id):i=j:=by have c:=h.1 i a;have d:=h.1 j b;grind
theorem kr.swap{f:Int->Option Value}{l:List Hd}(h:kr f l){i k:Nat}(a:i<l.length)(c:k<l.length):
 kr (en (en f ((sw l i k).getD i default).id (some (.int .i64 i))) ((sw l i k).getD k default).id (some (.int .i64 k))) (sw l i k):=by
 have o:=i9 l a c i;have p:=i9 l a c k;rw [if_pos rfl]at p;refine⟨fun j b=>?_,fun x v n=>?_⟩
 . rw [iA]at b;have d:=i9 l a c j;unfold en;by_cases g:j=k
   . grind
   . rw [if_neg g]at d;by_cases m:j=i
     . subst m;rw [if_neg,if_pos rfl];rw [if_neg g,if_pos rfl]at o;rw [o,p];intro e;exact g (h.inj c a (by omega)).symm
     . rw [if_neg m]at d;rw [if_neg,if_neg]
       . rw [d];exact h.1 j b
       . rw [d,o];intro e
         split at e
         . exact m (h.inj b a (by omega))
         . rename_i q;rw [if_pos rfl]at e;exact g (h.inj b c (by omega))
       . rw [d,p];intro e;exact m (h.inj b a (by omega))
 . unfold en at n;by_cases g:x=((sw l i k).getD k default).id
   . grind[iA]
   . rw [if_neg g]at n;by_cases m:x=((sw l i k).getD i default).id
     . grind[iA]
     . rw [if_neg m]at n;obtain⟨j,b,e⟩:=h.2 x v n;refine⟨j,by rw [iA];exact b,?_⟩;have d:=i9 l a c j;grind
structure fZ(h:Hp)(bh bl bm cap:Nat)(n:Int)(l:List Hd):Prop where
 row:Row h bh [.slice (some ⟨bl,0,some 2⟩) l.length cap,.map (some bm),.int .i64 n] 1
 ex: ∃cs es c f,Row h bl cs 1/\h.get bm=some (.map es c)/\d6 cs cap l/\dT es c f/\kr f l
 ne:bh≠bl/\bh≠bm/\bl≠bm
theorem fZ.mo{M:Nat->Prop}{h k:Hp}{e i j cap:Nat}{n:Int}{l:List Hd}(r:fZ h e i j cap n l)(g:Mo M h k)(p: ¬M e)(q: ¬M i)(s: ¬M j):fZ k e i j cap n l:=by obtain⟨t,m,c,f,a,b,d⟩:=r.ex;exact⟨g.has (o:=.row _ 1) r.row p,⟨t,m,c,f,g.has (o:=.row _ 1) a q,g.has (o:=.map m c) b s,d⟩,r.ne⟩
theorem fZ.mo1{M:Nat->Prop}{h f:Hp}{a b d cap:Nat}{n:Int}{l:List Hd}(r:fZ h a b d cap n l)(g:Mo M h f)(e: ∀c,c=a\/c=b\/c=d-> ¬M c):fZ f a b d cap n l:=
 r.mo g (e _ (.inl rfl)) (e _ (.inr (.inl rfl))) (e _ (.inr (.inr rfl)))
theorem fZ.lt{h:Hp}(e:h.t.Sized h.n){g i j cap:Nat}{n:Int}{l:List Hd}(r:fZ h g i j cap n l): ∀c,c=g\/c=i\/c=j->c<h.n:=by
 obtain⟨k,m,c,f,a,b,d⟩:=r.ex;rintro c (rfl|rfl|rfl)
 . exact r.row.lt e
 . exact a.lt e
 . exact ik e b
theorem fZ.gr{h a:Hp}{b c d cap:Nat}{n:Int}{l:List Hd}(r:fZ h b c d cap n l)(g:Gr h a):fZ a b c d cap n l:=r.mo (M:=NoM) g.fr (fun h=>h) (fun h=>h) (fun h=>h)
theorem St.init2{M:Nat->Prop}{h:Hp}(d:h.t.Sized h.n){a b:Nat}{o1 o2:Ob}(e:Has h a o1)(f:Has h b o2)(c:a≠b)(m1:M a)(m2:M b):St M h h [(a,o1),(b,o2)] []:=by refine⟨Mo.refl d,fun p g=>?_,fun _ h=>(by cases h),by simp [keys,c]⟩;grind
theorem St.init3{M:Nat->Prop}{h:Hp}(d:h.t.Sized h.n){a b c:Nat}{o1 o2 o3:Ob}(i:Has h a o1)(j:Has h b o2)(k:Has h c o3)(e:a≠b)(f:a≠c)(g:b≠c)(m1:M a)(m2:M b)(m3:M c):St M h h [(a,o1),(b,o2),(c,o3)] []:=by refine⟨Mo.refl d,fun p l=>?_,fun _ h=>(by cases h),by simp [keys,e,f,g]⟩;grind
end Go.Ab

end
section
namespace Go.Ab
open Go.Proofs
set_option maxRecDepth 10000
def cmpI(a b:Int):Int:=if a<b then-1 else if b<a then 1 else 0
theorem Bb{b:Hp}(c:b.t.Sized b.n){a:Int}:bG zB 248 [.int .i64 a] b (.bool false):=by have S:=Si c;refine aa (n:=6) (rs:=[.tmp 2]) rfl Tryz.e248 rfl rfl rfl (lbt rfl) ?_;simp only [BZ,ab,seval];exact S.gr
theorem nanI_ok{b:Hp}(c:b.t.Sized b.n){a:Int}:bG zB 249 [.int .i64 a] b (.bool false):=by have S:=Si c;refine aa (n:=6) (rs:=[.tmp 2]) rfl Tryz.e249 rfl rfl rfl (lbt rfl) ?_;simp only [BZ,ab,seval];exact S.gr
theorem cmp64_ok{c:Hp}(f:c.t.Sized c.n){a b:Int}:bG zB 243 [.int .i64 a,.int .i64 b] c (.int .i64 (cmpI a b)):=by
 have S:=Si f;unfold cmpI;refine aa (n:=20) (rs:=[.tmp 4]) rfl Tryz.e243 rfl rfl rfl (lbt rfl) ?_;simp only [BZ,seval];refine ah (Bb S.ok) ?_;intro h g;replace S:=S.call g;clear g;simp only [BZ,seval];refine ah (Bb S.ok) ?_;intro h g;replace S:=S.call g;clear g;by_cases d:a<b
 . simp only [BZ,ab,d,seval];exact S.gr
 . by_cases e:b<a
   . simp only [BZ,ab,d,e,seval];exact S.gr
   . simp only [BZ,ab,d,e,seval];exact S.gr
theorem cmpInt_ok{c:Hp}(f:c.t.Sized c.n){a b:Int}:bG zB 244 [.int .i64 a,.int .i64 b] c (.int .i64 (cmpI a b)):=by
 have S:=Si f;unfold cmpI;refine aa (n:=20) (rs:=[.tmp 4]) rfl Tryz.e244 rfl rfl rfl (lbt rfl) ?_;simp only [BZ,seval];refine ah (nanI_ok S.ok) ?_;intro h g;replace S:=S.call g;clear g;simp only [BZ,seval];refine ah (nanI_ok S.ok) ?_;intro h g;replace S:=S.call g;clear g;by_cases d:a<b
 . simp only [BZ,ab,d,seval];exact S.gr
 . by_cases e:b<a
   . simp only [BZ,ab,d,e,seval];exact S.gr
   . simp only [BZ,ab,d,e,seval];exact S.gr
theorem or2_ok{c:Hp}(q:c.t.Sized c.n){v:Value}{a b:Int}(h:ay c 1 (encI .i64) v [a,b]):bG zB 242 [v] c (.int .i64 (if a=0 then b else a)):=by
 have S:=Si q;obtain⟨j,k,r,f⟩:=h.ix (kd:=.i64) (aH .i64) (i:=0) (by simp);obtain⟨l,m,s,g⟩:=h.ix (kd:=.i64) (aH .i64) (i:=1) (by simp);have d:iW (some 1) v (.int .i64 0)=some (.pointer (some ⟨j,k,none⟩)):=r;have e:iW (some 1) v (.int .i64 1)=some (.pointer (some ⟨l,m,none⟩)):=s;replace f:c.load j k 1=some [.int .i64 a]:=f;replace g:c.load l m 1=some [.int .i64 b]:=g;have t:ag .i64 1=1:=rfl;have u:ag .i64 2=2:=rfl;refine aa (n:=18) (rs:=[.tmp 2]) rfl Tryz.e242 rfl rfl rfl (lbt rfl) ?_;simp only [BZ,Xb,h.lenq,seval];rw [dD];by_cases o:a=0
 . simp only [BZ,d,f,o,t,seval];rw [dD];by_cases p:b=0
   . simp only [BZ,e,g,p,u,seval];rw [dD];simp only [BZ,ab,seval];exact S.gr
   . simp only [BZ,ab,e,g,p,seval];exact S.gr
 . simp only [BZ,ab,d,f,o,seval];exact S.gr
theorem z9{r:Hp}(u:r.t.Sized r.n){v x D cap:Nat}{n:Int}{l:List Hd}(R:fZ r v x D cap n l){i k:Nat}(s:i<l.length)(t:k<l.length):
 bG zB 236 [ptrTo v,.int .i64 i,.int .i64 k] r (.bool (decide (hlt (l.getD i default) (l.getD k default)))):=by
 have S:=Si u;obtain⟨G,H,c,f,d,I,C,J,K⟩:=R.ex;have a:=R.row.load1 (o:=0) rfl;have e:=C.ld0 d s;have j:=C.ld1 d s;have m:=C.ld0 d t;have p:=C.ld1 d t;refine aa (n:=44) (rs:=[.tmp 6]) rfl Tryz.e236 rfl rfl rfl (lbt rfl) ?_;simp only [BZ];refine av (ax rfl) (q:=17179869184) (ps:=[(16,32),(16,28),(16,24),(16,20)]) (by kernel_rfl) ?_;simp only [BZ,cls,a,s,t,j,p,seval];refine fh (cmp64_ok S.ok) ?_;intro h g;replace S:=S.call g;replace a:=g.load a;replace e:=g.load e;replace j:=g.load j;replace m:=g.load m;replace p:=g.load p;have y:leaves _ _ x=true:=aP g (d.lt u);have z:leaves _ _ v=true:=aP g (R.row.lt u);clear g;simp only [BZ,cls,a,s,t,e,m,seval];refine fh (cmpInt_ok S.ok) ?_;intro L g;replace S:=S.call g;replace a:=g.load a;replace e:=g.load e;replace j:=g.load j;replace m:=g.load m;replace p:=g.load p;clear g;simp only [BZ,cls,seval];refine ec (bg (by exact Tryz.t38.1) (by exact XW) (by decide) (by rfl)) S ?_;clear S;intro h w S A B;simp only [LC,aU,bD,ae,Xq,Xm,Xn,XE,seval]at S;simp only [BZ,cls,seval];have E:ay h 1 (encI .i64) (.slice (some ⟨w,0,none⟩) 2 2) [cmpI (l.getD i default).key (l.getD k default).key,cmpI (l.getD i default).id (l.getD k default).id]:=.inr ⟨w,0,none,2,rfl,Xh _,S.lds (b:=w) (o:=0) (n:=2*1) m0 (lbt rfl)⟩;refine fh (or2_ok S.ok E) ?_;intro M g;replace S:=S.call g;clear g;simp only [BZ,cls,ab,seval];refine⟨by simp only [aY,bj,aR,bo,aW,ne_eq,not_false_eq_true,bz,bK,aX,aV,bZ,cw,aS,XB,al,aT y,aT z,aE y,aE z,seval],?_⟩;have F:decide ((if cmpI (l.getD i default).key (l.getD k default).key=0 then cmpI (l.getD i default).id (l.getD k default).id else cmpI (l.getD i default).key (l.getD k default).key)<0)=decide (hlt (l.getD i default) (l.getD k default)):=by
  congr 1;rw [eq_iff_iff];unfold cmpI hlt
  repeat' split
  all_goals omega
 exact⟨by rw [F],S.gr⟩
theorem ux{r:Hp}(ok:r.t.Sized r.n){A g j cap:Nat}{n:Int}{l:List Hd}(R:fZ r A g j cap n l){i k:Nat}(y:i<l.length)(s:k<l.length):
 Ret zB 221 [ptrTo A,.int .i64 i,.int .i64 k] r fun v d=>Mo (fun c=>c=g\/c=j) r d/\fZ d A g j cap n (sw l i k):=by
 obtain⟨Z,es,c,f,H,hm,C,MI,IF⟩:=R.ex;have S:=St.init2 (M:=fun c=>c=g\/c=j) ok (o1:=.row Z 1) (o2:=.map es c) H hm R.ne.2.2 (.inl rfl) (.inr rfl);have G: ¬(A=g\/A=j):=fun h=>h.elim R.ne.1 R.ne.2.1;have I:=R.row.load1 (o:=0) rfl;have r1:=R.row.load1 (o:=1) rfl;have i2:=C.ld2 H y;have k2:=C.ld2 H s;have ad:=C.len;have af:=C.le;refine aa (n:=62) (rs:=[]) rfl Tryz.e221 rfl rfl rfl (lbt rfl) ?_;simp only [BZ];refine av (ax rfl) (q:=0) (ps:=[]) (by kernel_rfl) ?_;simp only [BZ,cls,I,y,s,i2,k2,seval];refine dN (S.store (i:=0) rfl Tryz.t328.2.1 (by intro x e;cases e) rfl rfl (by omega) ono) ?_;clear S;rintro h ⟨S,t⟩;clear t;have J:=C.set y (l.getD k default);simp only [LC,ae]at S;have m:=S.old I G;simp only [BZ,cls,s,seval];generalize lay Z (i*2) _=K at S J;have aL:=J.len;refine dN (S.store (i:=0) (off:=k*2) rfl Tryz.t328.2.1 (by intro x e;cases e) rfl rfl (by omega) ono) ?_;clear S;rintro h ⟨S,t⟩;clear t;have B:=J.set (i:=k) (by rw [Xw];exact s) (l.getD i default);simp only [LC,ae]at S;generalize lay K (k*2) _=u at S B;rw [set_sw]at B;clear m;have m:=S.old I G;have D:=S.old r1 G;have L:i<(sw l i k).length:=by rw [iA];exact y
 have N:k<(sw l i k).length:=by rw [iA];exact s
 have ai:=B.ld0 (S.row m0) L;have ak:=B.ld0 (S.row m0) N;simp only [BZ,seval];refine av (ax rfl) (q:=0) (ps:=[]) (by kernel_rfl) ?_;simp only [BZ,cls,m,D,y,s,ai,ak,seval];refine jG (P:=fun d v=> ∃n a p,v=.tuple #[(f ((sw l i k).getD i default).id).getD (.int .i64 0),.int .i64 (Yr n)]/\St (fun c=>c=g\/c=j) r d [(g,.row u 1),(j,.map a p)] []/\ ∀w,∃b,iU n w a=some b/\dT b p (en f ((sw l i k).getD i default).id (some w))) ?_ ?_
 . obtain⟨d,n,O,_,a,p,_,Q,T⟩:=S.mentI (i:=1) (x:=(((sw l i k).getD i default).id:Int)) rfl Tryz.t213.1 Tryz.t3.1 (z:=.int .i64 0) (by kernel_rfl) MI;exact⟨d,_,O,n,a,p,rfl,Q,T⟩
 clear S ai ak m D;rintro h v ⟨s1,a0,c1,rfl,S,U⟩;obtain⟨b,V,W⟩:=U (.int .i64 i);simp only [BZ,cls,Yi,seval];refine dN (S.mstoreI (i:=1) rfl V) ?_;clear S;rintro h ⟨t,S⟩;clear t;simp only [LC]at S;simp only [BZ,cls,seval];refine jG (P:=fun d v=> ∃n a p,v=.tuple #[(en f ((sw l i k).getD i default).id (some (.int .i64 i)) ((sw l i k).getD k default).id).getD (.int .i64 0),.int .i64 (Yr n)]/\St (fun c=>c=g\/c=j) r d [(g,.row u 1),(j,.map a p)] []/\ ∀w,∃b,iU n w a=some b/\dT b p (en (en f ((sw l i k).getD i default).id (some (.int .i64 i))) ((sw l i k).getD k default).id (some w))) ?_ ?_
 . obtain⟨d,n,O,_,a,p,_,Q,T⟩:=S.mentI (i:=1) (x:=(((sw l i k).getD k default).id:Int)) rfl Tryz.t213.1 Tryz.t3.1 (z:=.int .i64 0) (by kernel_rfl) W;exact⟨d,_,O,n,a,p,rfl,Q,T⟩
 clear S;rintro h v ⟨s2,a1,c3,rfl,S,E⟩;obtain⟨X,F,Y⟩:=E (.int .i64 k);simp only [BZ,cls,Yi,seval];refine dN (S.mstoreI (i:=1) rfl F) ?_;clear S;rintro h ⟨t,S⟩;clear t;simp only [LC]at S;simp only [BZ,seval];refine⟨S.fr,?_,⟨u,X,c3,_,S.row m0,(S.own _ m1).2,B,Y,IF.swap y s⟩,R.ne⟩;rw [iA];exact S.fr.has (o:=.row _ 1) R.row G
theorem up_ok{b:Hp}(w:b.t.Sized b.n){d e j cap:Nat}{n:Int}{l:List Hd}(R:fZ b d e j cap n l){i:Nat}(s:i<l.length)(z:l.length<1000000)(U:sa l i):
 Ret zB 219 [ptrTo d,.int .i64 i] b fun v t=>Mo (fun c=>c=e\/c=j) b t/\ ∃l',fZ t d e j cap n l'/\l'.Perm l/\mM l':=by
 refine aa (n:=23) (rs:=[]) rfl Tryz.e219 rfl rfl rfl (lbt rfl) ?_;simp only [BZ];refine az (fun(i:Nat) o h=>i<l.length/\Mo (fun c=>c=e\/c=j) b h/\ ∃l',fZ h d e j cap n l'/\l'.Perm l/\sa l' i/\o 0=ptrTo d/\o 1=.int .i64 i) (fun i=>i) ?_ i _ _ ?_
 . intro i x o h ⟨s,a,l',R,pm,U,r0,r1⟩;have u:=pm.length_eq;by_cases p:i=0
   . subst p;simp only [BZ,Xb,r1,seval];exact⟨a,l',R,pm,up_done U (.inl rfl)⟩
   . have y:(0:Int)<(i:Int):=(by omega);have q:ag .i64 ((i:Int)-1)=((i-1:Nat):Int):=(by rw [wrap64]<;>omega);have r:ag .i64 (((i-1:Nat):Int).tdiv 4)=(((i-1)/4:Nat):Int):=(by rw [XK (by omega),show(((i-1:Nat):Int)/4)=(((i-1)/4:Nat):Int) by omega,wrap64]<;>omega);simp only [BZ,r0,r1,y,q,r,lI (n:=4) (by decide),seval];refine ah (z9 a.ok R (i:=i) (k:=(i-1)/4) (by omega) (by omega)) ?_;intro h g;replace R:=R.gr g;replace a:=a.trans (M':=NoM) g.fr (fun _ h=>h.elim);clear g;by_cases m:hlt (l'.getD i default) (l'.getD ((i-1)/4) default)
     . simp only [BZ,r0,r1,q,r,lI (n:=4) (by decide),m,seval];refine step_ret (ux a.ok R (i:=i) (k:=(i-1)/4) (by omega) (by omega)) ?_;rintro v h ⟨f,R⟩;replace a:=a.trans f (fun _ h=>.inl h);simp only [BZ,r1,q,r,lI (n:=4) (by decide),seval];exact x ((i-1)/4) _ _ (by omega) ⟨by omega,a,_,R,(uD l' (by omega) (by omega)).trans pm,up_step (by omega) U (by omega) m,by simp [am,r0,al]⟩
     . simp only [BZ,lI (n:=4) (by decide),m,seval];exact⟨a,l',R,pm,up_done U (.inr (wG m))⟩
 . exact⟨s,Mo.refl w,l,R,.refl _,U,by simp [cq,al],by simp [cq,cV]⟩
theorem St.monoM{M:Nat->Prop}{c h:Hp}{L:List (Nat×Ob)}{G:List GL}(S:St NoM c h L G):St M c h L G:=
 ⟨S.fr.mono (fun _ h=>h.elim),fun p a=>⟨(S.own p a).1.imp (fun h=>h) (fun h=>h.elim),(S.own p a).2⟩,fun p a=>⟨(S.gown p a).1,fun b d=>((S.gown p a).2 b d).imp (fun h=>h) (fun h=>h.elim)⟩,S.apart⟩
theorem below_ok{a:Hp}(j:a.t.Sized a.n){g i:Nat}:Ret zB 237 [ptrTo g,.int .i64 i] a fun v f=>Gr a f/\ ∃b c,v=.func (.func 245) #[] #[ptrTo b,ptrTo c]/\a.n<=b/\a.n<=c/\f.load b 0 1=some [.int .i64 i]/\f.load c 0 1=some [ptrTo g]:=by have S:=Si j;refine aa (n:=6) (rs:=[.tmp 4]) rfl Tryz.e237 rfl rfl rfl (lbt rfl) ?_;simp only [BZ,seval];refine ac (di (by exact cS)) S ?_;clear S;intro h c S d;simp only [BZ,if_false,seval];refine ac (di (by exact ca)) S ?_;clear S;intro h b S e;simp only [BZ,ab,seval];exact⟨S.gr,b,c,rfl,e,d,S.ld m0 rfl,S.ld m1 rfl⟩
theorem CY{d:Hp}(b:d.t.Sized d.n){f g o i n cap:Nat}{t:Addr}(k:d.load f 0 1=some [.int .i64 i])(u:d.load g 0 1=some [ptrTo o])(C:d.load o 0 1=some [.slice (some t) n cap])(L:n<1000000)(M:i<1000000):
 Iter zB 245 [] [ptrTo f,ptrTo g] d (fun c=>c=f\/c=g\/c=o) ((zO (min 4 (n-(4*i+1)))).map fun j=>[.int .i64 ((4*i+1+j:Nat):Int)]):=by
 refine uF fun D J Z Y h F s p=>?_;refine enter (n:=28) (rs:=[]) rfl Tryz.e245 rfl rfl rfl (lbt rfl) ?_;have e:=s.load b k (.inl rfl);have q:ag .i64 (4*(i:Int))=((4*i:Nat):Int):=by rw [wrap64]<;>omega
 have E:ag .i64 (((4*i:Nat):Int)+1)=((4*i+1:Nat):Int):=by rw [wrap64]<;>omega
 have x:ag .i64 (((4*i:Nat):Int)+4)=((4*i+4:Nat):Int):=by rw [wrap64]<;>omega
 simp only [BZ,e,q,E,seval];refine az (fun(j:Nat) l h=>j<=min 4 (n-(4*i+1))/\ ∃F,ItS d (fun c=>c=f\/c=g\/c=o) h F/\J j h F/\l 0=.func (.yield D) #[] #[]/\l 1=ptrTo f/\l 2=ptrTo g/\l 4=.int .i64 ((4*i+1+j:Nat):Int)) (fun j=>min 4 (n-(4*i+1))-j) ?_ 0 _ _ ?_
 . clear e;intro j G l h ⟨hjm,F,s,p,r0,r1,r2,r4⟩;have e:=s.load b k (.inl rfl);have z:=s.load b u (.inr (.inl rfl));have A:=s.load b C (.inr (.inr rfl));by_cases hlt:j<min 4 (n-(4*i+1))
   . have r:((4*i+1+j:Nat):Int)<=((4*i+4:Nat):Int):=(by omega);have y:4*i+1+j<n:=(by omega);have w:ag .i64 (((4*i+1+j:Nat):Int)+1)=((4*i+1+(j+1):Nat):Int):=(by rw [wrap64]<;>omega);simp only [BZ,r0,r1,r2,r4,e,z,A,q,x,r,y,an,seval];refine gz Y s p (i:=j) (by rw [XQ,Yn hlt];rfl) ?_ ?_ ?_
     . intro B H a I _ _;simp only [BZ,r4,w,seval];exact G (j+1) _ _ (by omega) ⟨by omega,H,I,a,by simp [am,r0,r1,al,r2]⟩
     . intro B a _;simp only [BZ,seval];exact iL rfl ⟨rfl,.inr (.inl ⟨_,rfl,a⟩)⟩
     . intro v B a;simp only [BZ];exact dB (cP ⟨rfl,.inr (.inr ⟨_,rfl,a⟩)⟩)
   . have K:j=min 4 (n-(4*i+1)):=(by omega);have m:YQ J Z (min 4 (n-(4*i+1))) (.ret (ab [])) none h:=⟨rfl,.inl ⟨_,F,rfl,by rw [<-K];exact p⟩⟩;by_cases r:((4*i+1+j:Nat):Int)<=((4*i+4:Nat):Int)
     . have y: ¬4*i+1+j<n:=(by omega);simp only [BZ,r1,r2,r4,e,z,A,q,x,r,y,an,seval];exact dl (cP ⟨rfl,_,rfl,by simpa using m⟩)
     . simp only [BZ,r1,r4,e,q,x,r,seval];exact dl (cP ⟨rfl,_,rfl,by simpa using m⟩)
 . exact⟨by omega,F,s,p,by simp [am,dy,al]⟩
theorem down_ok {z:Hp} (ok:z.t.Sized z.n) {u A C cap:Nat} {n:Int} {l:List Hd} (R:fZ z u A C cap n l) {i:Nat} (E:i<l.length\/(l=[]/\i=0)) (hl:l.length<100000) (D:um l i):
 Ret zB 222 [ptrTo u,.int .i64 i] z fun v K=>Mo (fun c=>c=A\/c=C) z K/\ ∃l',fZ K u A C cap n l'/\l'.Perm l/\mM l':=by
 have lt:=R.lt ok;have S:=Si ok;have O: ∀{L:List (Nat×Ob)},(∀c∈keys L [],z.n<=c)-> ∀c,c=u\/c=A\/c=C-> ¬c∈keys L []:=fun I c s hm=>by have:=lt c s;have:=I c hm;omega
 refine aa (n:=27) (rs:=[]) rfl Tryz.e222 rfl rfl rfl (lbt rfl) ?_;simp only [BZ,seval];refine ac au S ?_;clear S;intro h J S U;simp only [BZ,seval];refine aw (aq S (i:=0) rfl ?_ ?_ ?_ ono) ?_
 . exact(by simp only [XG])
 . exact(by exact iq)
 . exact Xc (lbt rfl)
 clear S;rintro h ⟨S,V⟩;clear V;simp only [LC,ae,lay,Xi,Xj,seval]at S;simp only [BZ];have RR:=R.gr S.gr;replace S:=S.monoM (M:=fun c=>c=A\/c=C);refine rb (fun(i:Nat) ρ d h=> ∃(r:List Nat) (l':List Hd),d=r.map qS/\St (fun c=>c=A\/c=C) z h (dq r++[(J,.row [.func (.func 236) #[ptrTo u] #[]] 1)]) []/\(∀c∈keys (dq r++[(J,Ob.row [.func (.func 236) #[ptrTo u] #[]] 1)]) [],z.n<=c)/\
  fZ h u A C cap n l'/\l'.Perm l/\um l' i/\(i<l.length\/(l=[]/\i=0))/\ρ 0=ptrTo u/\ρ 1=.int .i64 i/\ρ 4=ptrTo J) (fun i=>l.length-i) ?_ i _ _ _ ?_
 . clear S RR R D E i;intro i ih ρ d hS ⟨r,l',hd,S0,I,R,pm,D,E,r0,r1,r4⟩;have a3:=pm.length_eq;have ai:i<1000000:=(by rcases E with E|⟨_,E⟩<;>omega);have S:=S0.base;have Rs:=R;have n0:z.n<=hS.n:=S0.fr.n;simp only [BZ,r1,seval];refine ac au S ?_;clear S;intro h w S W;simp only [BZ,seval];refine aw (aq S (i:=0) rfl ?_ ?_ ?_ ono) ?_
   . exact(by simp only [XG])
   . exact(by exact ca)
   . exact Xc (lbt rfl)
   clear S;rintro h ⟨S,V⟩;clear V;simp only [LC,ae,lay,Xi,Xj,seval]at S;simp only [BZ,r0,r1,seval];have gq:=S.fr.n;have a4:=S.key_lt (b:=w) (by simp [keys]);refine step_ret (below_ok S.ok) ?_;intro v h ⟨g,b1,b2,e,n1,n2,q1,q2⟩;replace S:=S.call g;clear g;subst e;simp only [BZ];replace R:=R.mo1 S.fr (O I);have gh:=S.fr.n;refine js S (g:=245) (a:=#[]) (b:=#[ptrTo b1,ptrTo b2]) (by simp [bZ,am,al]) rfl rfl ?_;intro h2 G P Y a5 a6 g2;have kb: ∀c∈keys (dq r++[(J,Ob.row [.func (.func 236) #[ptrTo u] #[]] 1)]) [],c<b1/\c<b2:=fun c s=>(by have:=S0.key_lt s;have:=W;omega);generalize hB:dq r++[(J,Ob.row [.func (.func 236) #[ptrTo u] #[]] 1)]=B at S Y S0 I kb;have mf:(J,Ob.row [.func (.func 236) #[ptrTo u] #[]] 1)∈B:=(by rw [<-hB];exact Yf _ m0);obtain⟨X,hX,Y⟩: ∃X:gC,X=_/\St (· ∈keys B []) hS h2 ((P,.loop X)::(G,.dfr)::(w,.row [.int .i64 (i:Nat)] 1)::B) []:=⟨_,rfl,Y⟩;have R2:=R.gr g2;have ch: ∀j,j<min 4 (l'.length-(4*i+1))->4*i+1+j<l'.length/\(4*i+1+j-1)/4=i:=fun j hj=>⟨by omega,by omega⟩;have hY:Yld zB P (fun j K F=> ∃m:Nat,St (· ∈keys B []) hS K ((P,.loop X)::(G,.dfr)::(w,.row [.int .i64 (m:Nat)] 1)::B) []/\F=keys ((P,.loop X)::(G,.dfr)::(w,.row [.int .i64 (m:Nat)] 1)::B) []/\
    (m<l'.length\/(l'=[]/\m=i))/\hle (l'.getD m default) (l'.getD i default)/\(∀q,q<j->hle (l'.getD m default) (l'.getD (4*i+1+q) default))/\(m=i\/(0<m/\(m-1)/4=i/\hlt (l'.getD m default) (l'.getD i default)))) (fun _ _=>False) ((zO (min 4 (l'.length-(4*i+1)))).map fun j=>[.int .i64 ((4*i+1+j:Nat):Int)]):=by
    refine⟨?_,?_,fun _ _ h=>h.elim,?_⟩
    . rintro j h F ⟨m,S,rfl,_⟩;exact⟨S.ok,fun b t=>S.key_lt t⟩
    . rintro j h F K ⟨m,S,rfl,k⟩ g;exact⟨m,S.call g,rfl,k⟩
    . rintro j x h F hx ⟨m,S,rfl,H,k2,Z,k4⟩;have ad:j<min 4 (l'.length-(4*i+1)):=(by have:=(List.getElem?_eq_some_iff.1 hx).1;simpa using this);rw [XQ,Yn ad]at hx;cases hx;obtain⟨c1,c2⟩:=ch j ad;replace H:=H.resolve_right (by intro e;rw [e.1]at c1;simp at c1);obtain⟨X0,ak⟩: ∃x,x=X:=⟨_,rfl⟩;subst hX;refine ju (S.get m0) (by rw [Tryz.e222];rfl) rfl ?_;have S1:=S;replace S:=S.base;simp only [BZ,seval];refine iT S (i:=0) rfl rfl rfl rfl rfl ?_;clear S;intro h S;simp only [LC]at S;have lf:h.load J 0 1=some [.func (.func 236) #[ptrTo u] #[]]:=S.ld (o:=0) (.tail _ (.tail _ (.tail _ mf))) rfl;simp only [BZ,r4,lf,S.ld (b:=w) (o:=0) m2 rfl,seval];have aL: ∀c∈keys ((P,Ob.loop X0)::(G,.dfr)::(w,.row [.int .i64 (m:Nat)] 1)::B) [],z.n<=c:=fun c s=>(S1.key_own s).elim (fun h=>by omega) (fun h=>I c h);clear ak;have Rc:fZ h u A C cap n l':=(Rs.mo1 S1.fr (O I)).mo1 S.fr (O aL);refine ah (z9 S.ok Rc c1 H) ?_;intro h g;replace S:=S.call g;clear g Rc lf;by_cases Q:hlt (l'.getD (4*i+1+j) default) (l'.getD m default)
      . simp only [BZ,Q,seval];refine aw (aq S (i:=2) rfl ?_ ?_ ?_ ono) ?_
        . exact(by simp only [XG])
        . exact(by exact ca)
        . exact Xc (lbt rfl)
        clear S;rintro h ⟨S,V⟩;clear V;simp only [LC,ae,lay,Xi,Xj,seval]at S;simp only [BZ];refine fG S (i:=0) rfl ?_;clear S;intro h S;simp only [LC]at S;refine .inl ⟨rfl,_,⟨4*i+1+j,S1.rebase S,rfl,.inl c1,kP (tu Q) k2,fun q hq=>?_,.inr ⟨by omega,c2,?_⟩⟩,S.fr,S.key_new⟩
        . by_cases e:q=j
          . subst e;exact v8 _
          . exact kP (tu Q) (Z q (by omega))
        . rcases k4 with rfl|⟨_,_,k4⟩
          . exact Q
          . unfold hlt at*;omega
      . simp only [BZ,Q,seval];refine fG S (i:=0) rfl ?_;clear S;intro h S;simp only [LC]at S;refine .inl ⟨rfl,_,⟨m,S1.rebase S,rfl,.inl H,k2,fun q hq=>?_,k4⟩,S.fr,S.key_new⟩;by_cases e:q=j
        . subst e;exact wG Q
        . exact Z q (by omega)
   refine eQ (AQ (CY S.ok q1 q2 (R.row.load1 (o:=0) rfl) (by omega) ai) hY (h:=h2) (F:=keys ((P,.loop X)::(G,.dfr)::(w,.row [.int .i64 (i:Nat)] 1)::B) []) g2.fr (fun b t hlt=>?_) ⟨i,Y,rfl,?_,v8 _,fun q hq=>by omega,.inl rfl⟩) fun o rc K y=>mm y ?_
   . have e1:=Y.key_own t;rintro(rfl|rfl|rfl)
     . rcases List.mem_cons.1 t with e|t
       . omega
       . rcases List.mem_cons.1 t with e|t
         . omega
         . rcases List.mem_cons.1 t with e|t
           . simp only []at e;omega
           . have:=(kb _ t).1;omega
     . rcases List.mem_cons.1 t with e|t
       . omega
       . rcases List.mem_cons.1 t with e|t
         . omega
         . rcases List.mem_cons.1 t with e|t
           . simp only []at e;omega
           . have:=(kb _ t).2;omega
     . have:=lt b (.inl rfl);rcases e1 with e1|e1
       . omega
       . have:=I b e1;omega
   . rcases E with E|⟨E,_⟩
     . exact .inl (by omega)
     . right;rw [E]at pm;exact⟨pm.eq_nil,rfl⟩
   . rintro F ⟨m,T,rfl,H,k2,Z,k4⟩;rw [XN,Xs]at Z;subst hX;refine⟨_,T.get m0,Nat.zero_ne_one,?_⟩;replace T:=T.dead;show Run _ _ _ _ _ _ _ _;have p:=T.ld (b:=w) (o:=0) m1 rfl;have Rc:fZ _ u A C cap n l':=Rs.mo1 T.fr (O I);have km: ∀q,0<q->q<l'.length->(q-1)/4=i->hle (l'.getD m default) (l'.getD q default):=fun q q0 ql qe=>(by have:=Z (q-(4*i+1)) (by omega);rwa [show 4*i+1+(q-(4*i+1))=q by omega]at this);have T0:=S0.rebase T;have af: ∀c∈keys ((G,Ob.dfr)::(w,.row [.int .i64 (m:Nat)] 1)::B) [],z.n<=c:=fun c s=>(T.key_own s).elim (fun h=>by omega) (fun h=>I c h);subst hd hB;have T2:=T0.sub (L':=dq (G::r)++[(J,Ob.row [.func (.func 236) #[ptrTo u] #[]] 1)]) (G':=[]) (List.Sublist.cons_cons _ (Yd _ _)) (List.Sublist.refl _);have N: ∀c∈keys (dq (G::r)++[(J,Ob.row [.func (.func 236) #[ptrTo u] #[]] 1)]) [],z.n<=c:=fun c s=>af c (by simp only [keys,XY,XO,dq,Xt,XF,XJ]at s⊢;rcases s with h|h;exact .inl h;exact .inr (.inr h));by_cases e:m=i
     . subst e;simp only [BZ,r1,p,seval];have T3:=T2.base;refine fS (gu (G::r) _ T3 fun K T4=>⟨rfl,_,rfl,?_⟩);refine⟨(T2.fr.trans T4.fr fun c s=>(T2.key_own s).symm),l',Rc.mo1 T4.fr (O N),pm,dn_done D km⟩
     . have e': ¬((m:Int)=(i:Int)):=(by omega);obtain⟨b0,be,a0⟩:=k4.resolve_left e;replace H:=H.resolve_right (fun h=>e h.2);simp only [BZ,r0,r1,p,e',seval];refine step_ret (ux T2.ok Rc (i:=i) (k:=m) (by omega) H) ?_;rintro v h ⟨f,Rn⟩;have a1:=O N;have T3:=T2.step f (fun c s=>.inl s) (fun c s hM=>a1 c (.inr hM) s);have f2:Mo (fun c=>c=A\/c=C) _ h:=f;have a2:h.load w 0 1=some [.int .i64 (m:Nat)]:=(by have a7:z.n<=w:=af w (.tail _ m0);have:=f.get w (bJ f.ok0 p) (fun hM=>by have:=lt w (.inr hM);omega);unfold Hp.load at p⊢;rw [this];exact p);simp only [BZ,a2,seval];exact ih m _ _ _ (by omega) ⟨G::r,_,rfl,T3,N,Rn,(uD l' (by omega) H).trans pm,dn_step D b0 H be a0 km,.inl (by omega),by simp [am,r0,al,r4]⟩
 . exact⟨[],l,rfl,S,fun c s=>by simp [keys,dq]at s;subst s;exact U,RR,.refl _,D,E,by simp [am,cq,al,cV]⟩
end Go.Ab
end
section
namespace Go.Ab
theorem kr.push{f:Int->Option Value}{l:List Hd}(h:kr f l){x:Hd}(c:x.id∉l.map Hd.id):kr (en f x.id (some (.int .i64 l.length))) (l++[x]):=by
 refine⟨fun i b=>?_,fun y v a=>?_⟩
 . unfold en;simp at b;by_cases e:i=l.length
   . grind
   . rw [oF l _ (by omega),if_neg ?_]
     . exact h.1 i (by omega)
     grind
 . unfold en at a;by_cases e:y=x.id
   . refine⟨l.length,by simp,?_⟩;grind
   . rw [if_neg e]at a;obtain⟨i,b,d⟩:=h.2 y v a;exact⟨i,by simp;omega,by grind⟩
theorem kr.cut{f:Int->Option Value}{l:List Hd}(h:kr f l){m:Nat}(c:l.length=m+1):kr (en f (l.getD m default).id none) (l.take m):=by
 refine⟨fun i b=>?_,fun y v a=>?_⟩
 . rw [Xy]at b;rw [getD_take l (by omega)];unfold en;rw [if_neg ?_]
   . exact h.1 i (by omega)
   . intro e;have:=h.inj (i:=i) (j:=m) (by omega) (by omega) (by omega);omega
 . unfold en at a;by_cases e:y=(l.getD m default).id
   . grind
   . rw [if_neg e]at a;obtain⟨i,b,d⟩:=h.2 y v a;have:i≠m:=fun g=>(by grind);exact⟨i,by grind,by grind⟩
theorem kr.setKey{f:Int->Option Value}{l:List Hd}(h:kr f l){i:Nat}(k:Int):kr f (l.set i ⟨(l.getD i default).id,k⟩):=by
 have e: ∀j,((l.set i ⟨(l.getD i default).id,k⟩).getD j default).id=(l.getD j default).id:=fun j=>by grind
 refine⟨fun j a=>?_,fun y v b=>?_⟩
 . rw [e];exact h.1 j (by grind)
 . obtain⟨j,a,c⟩:=h.2 y v b;grind
theorem idxF_nil:kr (fun _=>none) []:=⟨fun i a=>by simp at a,fun x v h=>by cases h⟩
theorem d6.take{cs:List Value}{cap:Nat}{l:List Hd}(c:d6 cs cap l)(m:Nat):d6 cs cap (l.take m):=
 ⟨c.len,Xa (by grind) c.le,fun i a=>by
  rw [Xy]at a;rw [getD_take l (by omega)];exact c.at0 i (by omega)⟩
theorem d6.push{cs a:List Value}{cap cap':Nat}{l:List Hd}(c:d6 cs cap l){x:Hd}(d:a.length=cap'*2)(g:l.length<cap')(b: ∀j,j<l.length*2->a[j]? =cs[j]?)(h:a[l.length*2]? =some (.int .i64 x.id)/\a[l.length*2+1]? =some (.int .i64 x.key)):d6 a cap' (l++[x]):=by
 refine⟨d,by simp;omega,fun i f=>?_⟩;simp at f;by_cases e:i=l.length
 . grind
 . rw [oF l _ (by omega),b _ (by omega),b _ (by omega)];exact c.at0 i (by omega)
theorem slice_hi{E:Env}{t e:TypeId}{b k len cap n:Nat}{kd:IntKind}(c:E.und t=some (.slice e))(d:E.sz e=some k)(f:n<=cap):cK E t (.slice (some ⟨b,0,some k⟩) len cap) none (some (.int kd (n:Int))) none=some (.slice (some ⟨b,0,some k⟩) n cap):=by have a: ∀n:Nat,fm (n:Int)=some n:=fun n=>rfl;simp_all[cK,dp,dR,Xe,cond_true,Xk,cond_false,Ys]
section
variable{M:Nat->Prop}{h0 h:Hp}{L:List (Nat×Ob)}{G:List GL}{E:Env}{t tx e:TypeId}{by_:Nat}{zs:List Value}
theorem St.appH{d cap:Nat}{cs:List Value}{l:List Hd}(S:St M h0 h ((d,.row cs 1)::L) G)(C:d6 cs cap l)(H:E.und t=some (.slice e))(I:dP E e by_ 2 zs)(R:0<by_)(J:by_<=100)(r:dV E tx=some false){x:Hd}{z:Value}(f:aC h 2 z=some (1,lJ x))(U:l.length<1000000){ts:List TypeId}:
 ∃A w,du E h (t::tx::ts) (.slice (some ⟨d,0,some 2⟩) l.length cap) z=some (A,w)/\ ∃a cap' g,w=.slice (some ⟨a,0,some 2⟩) (l.length+1) cap'/\St M h0 A ((a,.row g 1)::L) G/\d6 g cap' (l++[x])/\(a=d\/h.n<=a):=by
 obtain⟨⟨i,K,rfl,c⟩,N,s⟩:=I;have B:Row h d cs 1:=S.row m0;have D:=C.len;by_cases V:l.length+1<=cap
 . obtain⟨y,W,O⟩:=B.store S.ok ono (o:=l.length*2) (vs:=lJ x) (by rw [ku];omega) rfl;refine⟨h.put d y,_,?_,d,cap,_,rfl,S.put (i:=0) rfl O,?_,.inl rfl⟩
   . simp_all[du,jY,fK,Xe,cond_true,lJ,Xm]
   . refine C.push (by grind[pS,ku]) (by omega) (fun j P=>?_) ⟨?_,?_⟩
     . rw [jO (by rw [ku];omega),if_neg (by omega)]
     . rw [jO (by rw [ku];omega),if_pos ⟨Xh _,by rw [ku];omega⟩,Yt];rfl
     . rw [jO (by rw [ku];omega),if_pos ⟨by omega,by rw [ku];omega⟩,Nat.add_sub_cancel_left];rfl
 . have F:cap=l.length:=(by have:=C.le;omega);obtain⟨q,el,k,m,Q⟩:=B;have u:jJ q cs.length 0 (l.length*2) (lJ x)=some (q.pushAll cs.length (lJ x),cs.length+2):=(by unfold jJ;rw [show l.length*2=cs.length by omega,Yq,Yq];rfl);have T:=S.dead.new (x:=.cells (q.pushAll cs.length (lJ x)) (cs.length+2) e 1) (o:=.row (cs++lJ x) 1) (by
    refine⟨q.pushAll cs.length (lJ x),e,?_,?_,fun n=>?_⟩
    . rw [Hp.get_new _ _ S.dead.ok,if_pos rfl,XD];rfl
    . rw [XD];exact Tr.sized_pushAll _ m
    grind[Tr.get_pushAll])
   refine⟨_,.slice (some ⟨h.n,0,some 2⟩) (l.length+1) (l.length+1),?_,h.n,l.length+1,_,rfl,T,?_,.inr (Xh _)⟩
   . simp only [du,r,jY,H,K,c,f];unfold fK;have p:XX (l.length+1) cap=false:=by
      cases r:XX (l.length+1) cap with
      |false=>rfl|true=>exact absurd (lbt r) (by omega)
     rw [p];simp only [cond_false];have b:(XX ((l.length+1)*(i.bytes+1)) 70368744177664&&X7 0 i.bytes)=true:=(by have:(l.length+1)*(i.bytes+1)<=1000000*101:=Yg (by omega) (by omega);rw [Xe (by omega)];simp_all);have v:XR zs.length i.size=true:=(by rw [s,c];rfl);rw [b,N];simp only [cond_true,v];unfold oL;simp only [k,c,u];rfl
   . refine C.push (by rw [XD,ku];omega) (by omega) (fun j P=>?_) ⟨?_,?_⟩
     . grind
     . rw [XL (by omega),show l.length*2-cs.length=0 by omega];rfl
     . rw [XL (by omega),show l.length*2+1-cs.length=1 by omega];rfl
theorem St.appH0(S:St M h0 h L G)(p:E.und t=some (.slice e))(q:dP E e by_ 2 zs)(v:0<by_)(r:by_<=100)(s:dV E tx=some false){x:Hd}{m:Value}(d:aC h 2 m=some (1,lJ x)){ts:List TypeId}:
 ∃n w,du E h (t::tx::ts) (.slice none 0 0) m=some (n,w)/\ ∃b cap' f,w=.slice (some ⟨b,0,some 2⟩) 1 cap'/\St M h0 n ((b,.row f 1)::L) G/\d6 f cap' [x]/\h.n<=b:=by
 obtain⟨⟨i,j,rfl,c⟩,u,k⟩:=q;have T:=S.new (x:=.cells (Tr.ofList (lJ x)) 2 e 1) (o:=.row (lJ x) 1) (nH S.ok (lJ x) e 1);refine⟨_,.slice (some ⟨h.n,0,some 2⟩) 1 1,?_,h.n,1,_,rfl,T,⟨rfl,by simp,fun i j=>?_⟩,Xh _⟩
 . simp only [du,s,jY,p,j,c,d];unfold fK;have g:XX (0+1) 0=false:=rfl;rw [g];simp only [cond_false];have a:(XX ((0+1)*(i.bytes+1)) 70368744177664&&X7 0 i.bytes)=true:=(by rw [Xe (by omega)];simp_all);have l:XR zs.length i.size=true:=(by rw [k,c];rfl);rw [a,u];simp only [cond_true,l];unfold oL;rw [show XR 0 0=true from rfl,c];rfl
 . have:i=0:=(by simpa using j);subst this;exact⟨rfl,rfl⟩
theorem St.rowS{i b d n cap c:Nat}{N:Int}{cs:List Value}{g:List (Value×Value×Nat)}{l:List Hd}{f:Int->Option Value}(S:St M h0 h [(b,.row cs 1),(i,.row [.slice (some ⟨b,0,some 2⟩) n cap,.map (some d),.int .i64 N] 1),(d,.map g c)] [])(C:d6 cs cap l)(j:n=l.length)(k:dT g c f)(m:kr f l):fZ h i b d cap N l:=by subst j;have a:=S.apart;simp only [keys,Xt,Yu,XY,XO,XC,XJ,List.not_mem_nil,or_false,not_or]at a;exact⟨S.row m1,⟨cs,g,c,f,S.row m0,(S.own _ m2).2,C,k,m⟩,fun e=>a.1.1 e.symm,a.2.1,a.1.2⟩
end
theorem rV{ρ:Operand->Value}{b:Bool}{t:TypeId}{a v:Operand}{h c:Hp}:cH ρ b (.store t a v) h c=(match ρ a with| .pointer (some a)=>some (.blk a.block)|_=>none):=by simp only [cH,dG,jK,fe,touch,cond_false];grind
theorem Bk{ρ:Operand->Value}{b:Bool}{x:Operand}{ts:Array TypeId}{h c:Hp}:cH ρ b (.call ⟨.builtin .len,#[x],ts⟩) h c=(match ρ x with| .map (some r)=>some (.blk r)| .slice (some a) _ _=>some (.blk a.block)|_=>none):=by simp only [cH,dG,jK,fe,touch,cond_false];grind
theorem dn_del{E:Env}{cx:Cx}{Q:fq}{a:List Oper}{q:Nat}{ps:List (Nat×Nat)}{o:Oper}{os:List Oper}{i:Nat}{k:List Fr}{l:Loc}{d:Hp->List (Nat×Tch)}{h:Hp}{t:TypeId}{m c:Value}{P:Hp->Prop}(f: ∃b,mR E h t m c=some b/\P b)
 (g: ∀b,P b->Run E (lim E) cx Q (.opsD a q ps os (i+1) (d b)::k) .normal (l.put o.dst (.tuple #[])) b):DN E cx Q a q ps o os i k l d (delR E h t m c):=by
 obtain⟨b,e,j⟩:=f;unfold delR;rw [e];exact g b j
structure dZ(h:Hp)(F:List Nat)(p:Value)(N:Nat)(K:Nat->Option Int):Prop where
 ex: ∃bh bm l,p=ptrTo bh/\mM l/\iD l K/\(∀x∈l,x.id<N)/\
  ((l=[]/\F=[bh,bm]/\bh≠bm/\Row h bh [.slice none 0 0,.map (some bm),.int .i64 N] 1/\ ∃es c,h.get bm=some (.map es c)/\dT es c (fun _=>none))\/ ∃bl cap,F=[bh,bl,bm]/\fZ h bh bl bm cap N l)
theorem dZ.mo{M:Nat->Prop}{h i:Hp}{F:List Nat}{p:Value}{N:Nat}{K:Nat->Option Int}(a:dZ h F p N K)(g:Mo M h i)(d: ∀b∈F,¬M b):dZ i F p N K:=by
 obtain⟨m,n,l,e,q,r,s,t⟩:=a.ex;refine⟨m,n,l,e,q,r,s,?_⟩;rcases t with⟨u,rfl,v,w,j,c,x,y⟩|⟨z,f,rfl,k⟩
 . exact .inl ⟨u,rfl,v,g.has (o:=.row _ 1) w (d _ (by simp)),j,c,g.has (o:=.map j c) x (d _ (by simp)),y⟩
 . exact .inr ⟨z,f,rfl,k.mo g (d _ (by simp)) (d _ (by simp)) (d _ (by simp))⟩
theorem dZ.gr{h b:Hp}{F:List Nat}{p:Value}{N:Nat}{K:Nat->Option Int}(a:dZ h F p N K)(g:Gr h b):dZ b F p N K:=a.mo (M:=NoM) g.fr (fun _ _ h=>h)
theorem dZ.lt{h:Hp}(f:h.t.Sized h.n){F:List Nat}{p:Value}{N:Nat}{K:Nat->Option Int}(a:dZ h F p N K): ∀b∈F,b<h.n:=by
 obtain⟨n,o,l,e,q,r,s,g⟩:=a.ex;rcases g with⟨t,rfl,u,i,v,c,j,w⟩|⟨x,m,rfl,k⟩
 . intro b d;simp at d;rcases d with rfl|rfl
   . exact i.lt f
   . exact ik f j
 . intro b d;simp at d;exact k.lt f b d
theorem vg{l:List Hd}{K:Nat->Option Int}(h:iD l K){N:Nat}(a: ∀x∈l,x.id<N):l.length<=N:=by have:=ww N (l.map Hd.id) h.1 (fun x b=>by grind);simpa using this
end Go.Ab

end
section
namespace Go.Ab
open Go.Proofs
set_option maxRecDepth 10000
theorem CV{a:Hp}(m:a.t.Sized a.n){N:Nat}:Ret zB 188 [.int .i64 N] a fun v g=>Gr a g/\ ∃F,dZ g F v N (fun _=>none)/\ ∀b∈F,a.n<=b:=by
 have S:=Si m;have o:max (N:Int) 0=(N:Int):=by omega
 refine aa (n:=9) (rs:=[.tmp 2]) rfl Tryz.e188 rfl rfl rfl (lbt rfl) ?_;simp only [BZ];refine ac uC S ?_;clear S;intro h i S d;simp only [BZ,o,seval];refine ac (bR (by intro x e;cases e)) S ?_;clear S;intro h b S f;simp only [ae]at S;simp only [BZ,ab,seval];have k:=S.apart;simp only [keys,Xt,Yu,XY,XO,XC,XJ,List.not_mem_nil,or_false]at k;refine⟨S.gr,[b,i],⟨b,i,[],rfl,fun j _ p=>(by simp at p),cont_nil,fun x q=>(by cases q),.inl ⟨rfl,rfl,k.1,S.row m0,[],0,(S.own _ m1).2,vj⟩⟩,fun c l=>?_⟩;simp at l;rcases l with rfl|rfl
 . exact f
 . exact d
section
variable{h0:Hp}{F:List Nat}{p:Value}{N:Nat}{K:Nat->Option Int}
theorem xM(f:h0.t.Sized h0.n)(H:dZ h0 F p N K): ∃m:Nat,bG zB 220 [p] h0 (.int .i64 m)/\(m=0↔ ∀v,K v=none):=by
 obtain⟨g,q,l,rfl,r,d,s,h⟩:=H.ex;refine⟨l.length,?_,?_⟩
 . have S:=Si f;obtain⟨a,n,c,m1,m2,b,i⟩: ∃a n c m1 m2,Row h0 g [.slice a n c,m1,m2] 1/\n=l.length:=by
    rcases h with⟨rfl,_,_,b,_⟩|⟨t,j,_,b⟩
    . exact⟨_,_,_,_,_,b,rfl⟩
    . exact⟨_,_,_,_,_,b.row,rfl⟩
   subst i;have k:=b.load1 (o:=0) rfl;refine aa (n:=11) (rs:=[.tmp 2]) rfl Tryz.e220 rfl rfl rfl (lbt rfl) ?_;simp only [BZ,ab,k,seval];exact S.gr
 . constructor
   . intro e;rw [List.length_eq_zero_iff.1 e]at d;exact d.nil
   . intro e;cases l with
     |nil=>rfl| cons x l=>
       have:=(d.2 x.id x.key).2 (by simp);rw [e]at this;cases this
theorem De (y:h0.t.Sized h0.n) (H:dZ h0 F p N K) {v:Nat}:bG zB 224 [p,.int .i64 v] h0 (.tuple #[.int .i64 ((K v).getD 0),.bool (K v).isSome]):=by
 have S:=Si y;obtain⟨m,a,A⟩:=xM y H;obtain⟨O,P,l,rfl,Q,r,T,I⟩:=H.ex;by_cases b:m=0
 . subst b;have e:=A.1 rfl v;rw [e];refine aa (n:=32) (rs:=[.tmp 4,.tmp 5]) rfl Tryz.e224 rfl rfl rfl (lbt rfl) ?_;simp only [BZ,seval];refine ah (a) ?_;intro h g;replace S:=S.call g;clear g;simp only [BZ,ab,Xb,seval];exact⟨rfl,S.gr⟩
 . have d: ¬((m:Int)=0):=(by omega);rcases I with⟨rfl,_⟩|⟨U,J,_,R⟩
   . exact absurd (A.2 r.nil) b
   . refine aa (n:=32) (rs:=[.tmp 4,.tmp 5]) rfl Tryz.e224 rfl rfl rfl (lbt rfl) ?_;simp only [BZ,seval];refine ah (a) ?_;intro h g;replace S:=S.call g;replace R:=R.gr g;clear g;obtain⟨V,W,c,f,s,t,C,L,B⟩:=R.ex;have M:=R.row.load1 (o:=0) rfl;have D:=R.row.load1 (o:=1) rfl;have q:=sj (x:=(v:Int)) Tryz.t213.1 Tryz.t3.1 (z:=.int .i64 0) (by kernel_rfl) t L;cases E:K v with
     | none=>
       have u:f v=none:=by
        cases hf:f v with
        |none=>rfl| some w=>
          obtain⟨i,j,e⟩:=B.2 v w hf;have:=r.at j;rw [show(l.getD i default).id=v by omega,E]at this;cases this
       rw [u]at q;simp only [BZ,ab,d,D,q,Xz,Xk,seval];exact S.gr
     | some k=>
       obtain⟨i,j,e⟩:=r.idx E;have u:f v=some (.int .i64 i):=(by have:=B.1 i j;rwa [e]at this);rw [u]at q;have G:=C.ld1 s j;rw [e]at G;simp only [BZ,ab,d,M,D,q,XH,j,G,seval];exact S.gr
theorem uU(ok:h0.t.Sized h0.n)(H:dZ h0 F p N K){v:Nat}(hv:v<N)(hN:N<=1000)(P:K v=none){k:Int}:
 Ret zB 191 [p,.int .i64 v,.int .i64 k] h0 fun r h'=>Mo (· ∈F) h0 h'/\ ∃F',dZ h' F' p N (eV K v (some k))/\ ∀b∈F',b∈F\/h0.n<=b:=by
 obtain⟨a,s,l,rfl,ho,m,hlt,D⟩:=H.ex;have af:=vg m hlt;have c1: ¬((v:Int)<0):=by omega
 have c2: ¬((N:Int)<=(v:Int)):=by omega
 have hn:=m.free P;rcases D with⟨rfl,rfl,T,hr,U,c,g,E⟩|⟨G,u,rfl,R⟩
 . have S:=St.init2 (M:=(· ∈[a,s])) ok (o1:=.row _ 1) (o2:=.map U c) hr g T (by simp) (by simp);have Q:=sj (x:=(v:Int)) Tryz.t213.1 Tryz.t3.1 (z:=.int .i64 0) (by kernel_rfl) g E;refine aa (n:=71) (rs:=[.tmp 6]) rfl Tryz.e191 rfl rfl rfl (lbt rfl) ?_;simp only [BZ,Q,c1,c2,Xz,Xk,S.ld (b:=a) (o:=1) m0 rfl,S.ld (b:=a) (o:=2) m0 rfl,seval];refine av (ax rfl) (q:=0) (ps:=[]) (by kernel_rfl) ?_;simp only [BZ,cls,Xb,S.ld (b:=a) (o:=0) m0 rfl,S.ld (b:=a) (o:=1) m0 rfl,seval];refine dN (S.mputI (i:=1) rfl Tryz.t213.1 Tryz.t3.1 E _) ?_;clear S;rintro h ⟨_,V,c',y,S⟩;simp only [LC]at S;simp only [BZ,S.ld (b:=a) (o:=0) m0 rfl,S.ld (b:=a) (o:=1) m0 rfl,seval];refine ac (bg (by exact Tryz.t320.1) (by exact Yj) (by decide) (by rfl)) S ?_;clear S;intro h I S J;simp only [LC,aU,bD,ae,Xq,Xm,Xn,XE,seval]at S;simp only [BZ,S.ld (b:=a) (o:=0) m1 rfl,S.ld (b:=a) (o:=1) m1 rfl,seval];have j:aC h 2 (.slice (some ⟨I,0,none⟩) 1 1)=some (1,lJ ⟨v,k⟩):=(by simp only [aC];rw [S.lds (b:=I) (o:=0) (n:=1*2) m0 (lbt rfl)];rfl);replace S:=S.drop1;refine dX (S.appH0 Tryz.t320.1 Yj (by decide) (by decide) Tryz.t320.2.2.2.2.2 j) ?_;clear S j;rintro h w ⟨G,u,cs,rfl,S,C,W⟩;simp only [BZ,seval];refine aw (aq S (i:=1) rfl ?_ ?_ ?_ ono) ?_
   . exact(by simp only [XG])
   . exact(by exact ce)
   . exact Xc (lbt rfl)
   clear S;rintro h ⟨S,X⟩;clear X;simp only [LC,ae,lay,Xi,Xj,seval]at S;simp only [BZ];refine av (ax rfl) (q:=0) (ps:=[]) (by kernel_rfl) ?_;simp only [BZ,cls,Xb,S.ld (b:=a) (o:=0) m1 rfl,S.ld (b:=a) (o:=1) m1 rfl,seval];have R:fZ h a G s u N ([]++[⟨v,k⟩]):=S.rowS C rfl y (idxF_nil.push hn);have Y:ag .i64 0=((0:Nat):Int):=rfl;rw [Y];refine cg (up_ok S.ok R (i:=0) (by simp) (by simp) (zu ho ⟨v,k⟩)) ?_;have d:=(S.own _ m0).1;rintro r h ⟨f,Z,R',L,A⟩;simp only [BZ,Xb,seval];refine⟨S.fr.trans f (fun c m=>?_),[a,G,s],⟨a,s,Z,rfl,A,(m.push P k).perm L,fun x D=>?_,.inr ⟨G,u,rfl,R'⟩⟩,fun b O=>?_⟩
   . rcases m with rfl|rfl
     . exact d.symm
     . exact .inl (by simp)
   . have:=L.mem_iff.1 D;simp at this;subst this;exact hv
   . simp at O;rcases O with rfl|rfl|rfl
     . exact .inl (by simp)
     . exact d.symm
     . exact .inl (by simp)
 . obtain⟨cs,U,c,f,ad,g,C,E,IF⟩:=R.ex;have S:=St.init3 (M:=(· ∈[a,G,s])) ok (o1:=.row cs 1) (o2:=.row _ 1) (o3:=.map U c) ad R.row g R.ne.1.symm R.ne.2.2 R.ne.2.1 (by simp) (by simp) (by simp);have Q:=sj (x:=(v:Int)) Tryz.t213.1 Tryz.t3.1 (z:=.int .i64 0) (by kernel_rfl) g E;have fv:f v=none:=by
    cases hf:f v with
    |none=>rfl| some w=>
      obtain⟨i,hi,e⟩:=IF.2 v w hf;have:=m.at hi;rw [show(l.getD i default).id=v by omega,P]at this;cases this
   rw [fv]at Q;refine aa (n:=71) (rs:=[.tmp 6]) rfl Tryz.e191 rfl rfl rfl (lbt rfl) ?_;simp only [BZ,Q,c1,c2,Xz,Xk,S.ld (b:=a) (o:=1) m1 rfl,S.ld (b:=a) (o:=2) m1 rfl,seval];refine av (ax rfl) (q:=0) (ps:=[]) (by kernel_rfl) ?_;simp only [BZ,cls,S.ld (b:=a) (o:=0) m1 rfl,S.ld (b:=a) (o:=1) m1 rfl,seval];refine dN (S.mputI (i:=2) rfl Tryz.t213.1 Tryz.t3.1 E _) ?_;clear S;rintro h ⟨_,V,c',y,S⟩;simp only [LC]at S;simp only [BZ,S.ld (b:=a) (o:=0) m1 rfl,S.ld (b:=a) (o:=1) m1 rfl,seval];refine ac (bg (by exact Tryz.t320.1) (by exact Yj) (by decide) (by rfl)) S ?_;clear S;intro h I S J;simp only [LC,aU,bD,ae,Xq,Xm,Xn,XE,seval]at S;simp only [BZ,S.ld (b:=a) (o:=0) m2 rfl,S.ld (b:=a) (o:=1) m2 rfl,seval];have j:aC h 2 (.slice (some ⟨I,0,none⟩) 1 1)=some (1,lJ ⟨v,k⟩):=(by simp only [aC];rw [S.lds (b:=I) (o:=0) (n:=1*2) m0 (lbt rfl)];rfl);replace S:=S.drop1;refine dX (S.appH C Tryz.t320.1 Yj (by decide) (by decide) Tryz.t320.2.2.2.2.2 j (by omega)) ?_;clear S j;rintro h w ⟨B,t,ai,rfl,S,C',W⟩;simp only [BZ,seval];refine aw (aq S (i:=1) rfl ?_ ?_ ?_ ono) ?_
   . exact(by simp only [XG])
   . exact(by exact ce)
   . exact Xc (lbt rfl)
   clear S;rintro h ⟨S,X⟩;clear X;simp only [LC,ae,lay,Xi,Xj,seval]at S;simp only [BZ];refine av (ax rfl) (q:=0) (ps:=[]) (by kernel_rfl) ?_;have Y:ag .i64 (((l.length+1:Nat):Int)-1)=((l.length:Nat):Int):=(by rw [wrap64]<;>omega);simp only [BZ,cls,Y,S.ld (b:=a) (o:=0) m1 rfl,S.ld (b:=a) (o:=1) m1 rfl,seval];have R:fZ h a B s t N (l++[⟨v,k⟩]):=S.rowS C' (by simp) y (IF.push hn);refine cg (up_ok S.ok R (i:=l.length) (by simp) (by simp;omega) (zu ho ⟨v,k⟩)) ?_;have d:=(S.own _ m0).1;rintro r h ⟨f,Z,R',L,A⟩;simp only [BZ,seval];refine⟨S.fr.trans f (fun c m=>?_),[a,B,s],⟨a,s,Z,rfl,A,(m.push P k).perm L,fun x D=>?_,.inr ⟨B,t,rfl,R'⟩⟩,fun b O=>?_⟩
   . rcases m with rfl|rfl
     . exact d.symm
     . exact .inl (by simp)
   . have:=L.mem_iff.1 D;simp at this;rcases this with h|rfl
     . exact hlt x h
     . exact hv
   . simp at O;rcases O with rfl|rfl|rfl
     . exact .inl (by simp)
     . exact d.symm
     . exact .inl (by simp)
theorem A8(U:h0.t.Sized h0.n)(H:dZ h0 F p N K){v:Nat}(hN:N<=1000){t k:Int}(V:K v=some t)(hle:k<=t):
 Ret zB 225 [p,.int .i64 v,.int .i64 k] h0 fun r G=>Mo (· ∈F) h0 G/\dZ G F p N (eV K v (some k)):=by
 obtain⟨d,w,l,rfl,W,g,hlt,y⟩:=H.ex;have X:=vg g hlt;obtain⟨i,a,u⟩:=g.idx V;have Y:v<N:=by have:=hlt (l.getD i default) (by rw [Xg,Xr a];exact XA a);rwa [u]at this
 have Z: ¬((v:Int)<0):=by omega
 have c2: ¬((N:Int)<=(v:Int)):=by omega
 have c3: ¬(t<k):=by omega
 rcases y with⟨rfl,_⟩|⟨A,j,rfl,R⟩
 . simp at a
 . obtain⟨I,es,c,f,m,q,C,J,L⟩:=R.ex;have S:=St.init3 (M:=(· ∈[d,A,w])) U (o1:=.row I 1) (o2:=.row _ 1) (o3:=.map es c) m R.row q R.ne.1.symm R.ne.2.2 R.ne.2.1 (by simp) (by simp) (by simp);have O:=sj (x:=(v:Int)) Tryz.t213.1 Tryz.t3.1 (z:=.int .i64 0) (by kernel_rfl) q J;have fv:f v=some (.int .i64 i):=(by have:=L.1 i a;rwa [u]at this);rw [fv]at O;have P:=C.ld1 m a;have Q:=C.len;have ad:=C.le;have ek:(l.getD i default).key=t:=(by rw [u]);have B:(l.getD i default).id=v:=(by rw [u]);rw [ek]at P;refine aa (n:=61) (rs:=[.tmp 6]) rfl Tryz.e225 rfl rfl rfl (lbt rfl) ?_;simp only [BZ,O,Z,c2,c3,a,P,XH,S.ld (b:=d) (o:=0) m1 rfl,S.ld (b:=d) (o:=1) m1 rfl,S.ld (b:=d) (o:=2) m1 rfl,seval];refine aw (S.store (i:=0) (off:=i*2+1) rfl Tryz.t2.2.2.1 (by intro x e;cases e) rfl rfl (by omega) ono) ?_;clear S;rintro h ⟨S,_⟩;simp only [LC,ae]at S;have T:=C.setKey a k;generalize lay I (i*2+1) _=af at S T;simp only [BZ,S.ld (b:=d) (o:=0) m1 rfl,S.ld (b:=d) (o:=1) m1 rfl,seval];have R1:fZ h d A w j N (l.set i ⟨(l.getD i default).id,k⟩):=S.rowS T (by rw [Xw]) J (L.setKey k);refine step_ret (up_ok S.ok R1 (i:=i) (by rw [Xw];exact a) (by rw [Xw];omega) (CJ W (by unfold Ab.hle;simp only [];omega))) ?_;rintro r h ⟨f,l',R',D,E⟩;simp only [BZ,seval];have s:=g.lower a k;rw [B]at s;refine⟨S.fr.trans f (fun c g=>?_),⟨d,w,l',rfl,E,(by rw [B]at D;exact s.perm D),fun x y=>?_,.inr ⟨A,j,rfl,R'⟩⟩⟩
   . rcases g with rfl|rfl<;>exact .inl (by simp)
   . have:=D.mem_iff.1 y;rcases List.mem_or_eq_of_mem_set this with h|rfl
     . exact hlt x h
     . rw [B];exact Y
end
end Go.Ab

end
section
namespace Go.Ab
open Go.Proofs
set_option maxRecDepth 10000
section
variable{h0:Hp}{F:List Nat}{p:Value}{N:Nat}{K:Nat->Option Int}
theorem C5(ok:h0.t.Sized h0.n)(H:dZ h0 F p N K)(hN:N<=1000):
 Ret zB 192 [p] h0 fun r h'=>(r=.tuple #[.int .i64 0,.int .i64 0,.bool false]/\(∀v,K v=none)/\Gr h0 h')\/ ∃v k,r=.tuple #[.int .i64 (v:Nat),.int .i64 k,.bool true]/\K v=some k/\(∀u k',K u=some k'->k<k'\/(k=k'/\v<=u))/\Mo (· ∈F) h0 h'/\dZ h' F p N (eV K v none):=by
 obtain⟨m,B,O⟩:=xM ok H;obtain⟨d,D,l,rfl,ho,t,hlt,hx⟩:=H.ex;have a2:=vg t hlt;by_cases E:m=0
 . subst E;have S:=Si ok;refine aa (n:=55) (rs:=[.tmp 2,.tmp 3,.tmp 4]) rfl Tryz.e192 rfl rfl rfl (lbt rfl) ?_;simp only [BZ,seval];refine ah (B) ?_;intro h g;replace S:=S.call g;clear g;simp only [BZ,ab,Xb,seval];exact .inl ⟨O.1 rfl,S.gr⟩
 . have ad: ¬((m:Int)=0):=(by omega);rcases hx with⟨rfl,_⟩|⟨y,cap,rfl,R⟩
   . exact absurd (O.2 t.nil) E
   . have a:0<l.length:=by
      cases l with
      |nil=>exact absurd (O.2 t.nil) E|cons x l=>simp
     have S:=Si ok;refine aa (n:=55) (rs:=[.tmp 2,.tmp 3,.tmp 4]) rfl Tryz.e192 rfl rfl rfl (lbt rfl) ?_;simp only [BZ,seval];refine ah (B) ?_;intro h g;replace S:=S.call g;replace R:=R.gr g;clear g;have g0:=S.gr;clear S;obtain⟨cs,es,c,f,z,G,C,MI,IF⟩:=R.ex;have r0:=R.row.load1 (o:=0) rfl;have l2:=C.ld2 z a;have S:=Si g0.ok;have i0:iX (.int .i64 0) l.length=some 0:=eU (i:=0) a;have w1:ag .i64 ((l.length:Int)-1)=((l.length-1:Nat):Int):=(by rw [wrap64]<;>omega);simp only [BZ,ad,seval];refine av (zw (ord:=[14,0,1,2,3,4,5,6,7,8,9,10,11,12,13,15,16]) rfl rfl (by simp only [fk,reix,gG,List.getElem?_cons_zero,List.getElem?_cons_succ,List.map_toArray,Xt,Yu,cond_true,cond_false,seval];exact rfl)) (q:=1) (ps:=[(13,15),(12,15)]) (by kernel_rfl) ?_;simp only [BZ,cls,seval];refine ec au S ?_;clear S;intro h s S a0 a1;simp only [BZ,cls,S.old r0 (fun h=>h),S.old l2 (fun h=>h),i0,w1,seval];refine dN (S.store (i:=0) rfl ?_ ?_ rfl rfl ?_ ono) ?_
     . exact(by exact Tryz.t322.2.1)
     . exact(by intro x e;cases e)
     . exact lbt rfl
     clear S;rintro h ⟨S,mo⟩;clear mo;simp only [LC,ae,lay,Xi,Xj,seval]at S;simp only [BZ,cls,S.old r0 (fun h=>h),S.old l2 (fun h=>h),seval];have g1:=S.gr;have R1:=R.gr g1;have Y:=S.lds (b:=s) (o:=0) (n:=2) m0 (lbt rfl);have A:=R.lt g0.ok;have nb:s≠d:=fun e=>(by have:=A d (.inl rfl);omega);have P:s≠y:=fun e=>(by have:=A y (.inr (.inl rfl));omega);refine⟨by simp only [aY,bj,aR,bo,aW,ne_eq,not_false_eq_true,bz,bK,aX,aV,bZ,cw,aS,XB,al,rV,Bk,im nb,im nb.symm,im P,im P.symm,seval],?_⟩;have sw:Ret zB 221 [ptrTo d,.int .i64 0,.int .i64 ((l.length-1:Nat):Int)] _ _:=ux S.ok R1 (i:=0) (k:=l.length-1) a (by omega);refine step_ret sw ?_
     --refine step_ret (ux S.ok R1 (i := 0) (k := l.length - 1) a (by omega)) ?_
     rintro r I ⟨Z,L⟩;have gg:Gr h0 h:=g0.trans g1;have mA:Mo (· ∈[d,y,D]) h0 I:=(gg.fr (M:=(· ∈[d,y,D]))).trans Z (fun c t=>.inl (by rcases t with rfl|rfl<;>simp));have J:I.load s 0 2=some [.int .i64 (l.getD 0 default).id,.int .i64 (l.getD 0 default).key]:=(by have:=Z.get s (bJ Z.ok0 Y) (fun hM=>by have:=A s (.inr hM);omega);unfold Hp.load at Y⊢;rw [this];exact Y);have a3:=L.lt mA.ok;have af:=mA.ok;have Q:=bJ mA.ok J;clear S R R1 Z sw z G C MI IF Y l2 r0;obtain⟨cs,es,c,f,z,G,C,MI,IF⟩:=L.ex;have S:=St.init3 (M:=(· ∈[d,y,D])) (h:=I) af (o1:=.row cs 1) (o2:=.row _ 1) (o3:=.map es c) z L.row G L.ne.1.symm L.ne.2.2 L.ne.2.1 (by simp) (by simp) (by simp);have sl:=slice_hi (kd:=.i64) (b:=y) (len:=(sw l 0 (l.length-1)).length) (n:=l.length-1) Tryz.t320.1 Tryz.t328.2.1 (cap:=cap) (by have:=C.le;rw [iA]at this;omega);simp only [BZ,XT,Ya,sl,S.ld (b:=d) (o:=0) m1 rfl,S.ld (b:=d) (o:=1) m1 rfl,seval];refine aw (aq S (i:=1) rfl ?_ ?_ ?_ ono) ?_
     . exact(by simp only [XG])
     . exact(by exact ce)
     . exact Xc (lbt rfl)
     clear S;rintro h ⟨S,mo⟩;clear mo;simp only [LC,ae,lay,Xi,Xj,seval]at S;simp only [BZ,S.ld (b:=d) (o:=0) m1 rfl,S.ld (b:=d) (o:=1) m1 rfl];refine av (ax rfl) (q:=0) (ps:=[]) (by kernel_rfl) ?_;have T: ¬s∈[d,y,D]:=fun O=>(by have:=A s (by simpa using O);omega);have U:I.load s 0 1=some [.int .i64 (l.getD 0 default).id]:=(by have:=gf J (i:=0) (m:=1) (by omega);simpa using this);have ai:I.load s 1 1=some [.int .i64 (l.getD 0 default).key]:=(by have:=gf J (i:=1) (m:=1) (by omega);simpa using this);simp only [BZ,cls,S.old U T,S.ld (b:=d) (o:=1) m1 rfl,seval];refine dn_del (S.mdelI (i:=2) rfl Tryz.t213.1 Tryz.t3.1 MI) ?_;clear S;rintro h ⟨_,a4,c',ak,S⟩;simp only [LC]at S;simp only [BZ,seval];have V:(sw l 0 (l.length-1)).length=l.length:=iA _ _ _;have w:=i9 l (i:=0) (k:=l.length-1) a (by omega) (l.length-1);rw [if_pos rfl]at w;have W:=IF.cut (m:=l.length-1) (by omega);rw [w]at W;have tl:((sw l 0 (l.length-1)).take (l.length-1)).length=l.length-1:=(by rw [Xy,V];omega);have R3:fZ h d y D cap N ((sw l 0 (l.length-1)).take (l.length-1)):=S.rowS (C.take _) tl.symm ak W;have dn:Ret zB 222 [ptrTo d,.int .i64 0] h _:=down_ok S.ok R3 (i:=0) (by
      by_cases e:l.length-1=0
      . exact .inr ⟨List.length_eq_zero_iff.1 (by rw [tl,e]),rfl⟩
      . exact .inl (by omega)) (by omega) (heap_pop ho a)
     refine step_ret dn ?_;rintro r h ⟨fB,l',R',pm,aL⟩;have mB:Mo (· ∈[d,y,D]) I h:=S.fr.trans fB (fun c t=>.inl (by rcases t with rfl|rfl<;>simp));have X: ∀{o x},I.load s o 1=some x->h.load s o 1=some x:=fun e=>(by have:=mB.get s Q T;unfold Hp.load at e⊢;rw [this];exact e);simp only [BZ];refine av (ax rfl) (q:=0) (ps:=[]) (by kernel_rfl) ?_;simp only [BZ,cls,ab,X U,X ai,seval];refine .inr ⟨(l.getD 0 default).id,(l.getD 0 default).key,rfl,t.at a,fun u k' hu=>?_,mA.trans mB (fun c t=>.inl t),⟨d,D,l',rfl,aL,(t.pop a).perm pm,fun x hx=>?_,.inr ⟨y,cap,rfl,R'⟩⟩⟩
     . obtain⟨j,hj,e⟩:=t.idx hu;have:=heap_min ho j hj;rw [e]at this;unfold Ab.hle at this;simp only []at this;omega
     . exact hlt x ((uD l a (by omega)).mem_iff.1 (List.mem_of_mem_take (pm.mem_iff.1 hx)))
end
end Go.Ab

end
section
namespace Go.Ab
def sS(E:Env)(g:FuncId)(a post:List Value)(c:Hp)(D:Nat->Prop)(xs:List (List Value)):Prop:=
 ∀b J Z,(∀v h,¬Z (.pan v) h)->Yld E b J Z xs-> ∀h F,ItS c D h F->J 0 h F->dU E g (a++[.func (.yield b) #[] #[]]++post) none h (YQ J Z xs.length)
theorem iter_useN{E:Env}{g:FuncId}{a post:List Value}{c:Hp}{D:Nat->Prop}{xs:List (List Value)}(H:sS E g a post c D xs){d:Nat}{J:Nat->Hp->List Nat->Prop}{Z:Out->Hp->Prop}(j: ∀v h,¬Z (.pan v) h)(Y:Yld E d J Z xs)
 {h:Hp} {F:List Nat} (e:Mo (fun b=> ¬D b) c h) (k: ∀b∈F,b<c.n-> ¬D b) (i:J 0 h F):dU E g (a++[.func (.yield d) #[] #[]]++post) none h (YQ J Z xs.length):=
 H d J Z j Y h F ⟨e.ok,e.n,fun b f l=>e.get b f (fun m=>m l),fun b f h=>k b f h.1 h.2,(Y.lt 0 h F i).2⟩ i
theorem dn_yield{E:Env}{cx:Cx}{Q:fq}{a:List Oper}{q:Nat}{ps:List (Nat×Nat)}{o:Oper}{os:List Oper}{i:Nat}{k:List Fr}{l:Loc}{e:Hp->List (Nat×Tch)}{f h:Hp}{D:Nat->Prop}{g j:Nat}{J:Nat->Hp->List Nat->Prop}{Z:Out->Hp->Prop}{xs:List (List Value)}{x:List Value}{F:List Nat}
 (w: ∀v h,¬Z (.pan v) h) (Y:Yld E g J Z xs) (s:ItS f D h F) (m:J j h F) (n:xs[j]? =some x)
 (p: ∀d F',J (j+1) d F'->ItS f D d F'->Mo (· ∈F) h d->(∀b∈F',b∈F\/h.n<=b)->Run E (lim E) cx Q (.opsD a q ps os (i+1) (e d)::k) .normal (l.put o.dst (.bool true)) d)
 (k2: ∀d,Z (.ret (.bool false)) d->d.t.Sized d.n->Run E (lim E) cx Q (.opsD a q ps os (i+1) (e d)::k) .normal (l.put o.dst (.bool false)) d):DN E cx Q a q ps o os i k l e (some (.yield g x,h)):=by
 obtain⟨r,d,t,u⟩:=Y.round j x h F n m;refine⟨r,d,t,?_⟩;rcases u with⟨rfl,F',a,b,c⟩|⟨rfl,a,b⟩|⟨⟨v,rfl⟩,a⟩
 . exact p d F' a (s.mo b c (Y.lt _ _ _ a).2) b c
 . exact k2 d a b
 grind
def fC(h a:Hp):Prop:= ∀b,b<h.n->a.get b=h.get b
theorem fC.load{h a:Hp}(c:h.t.Sized h.n)(g:fC h a){b o n:Nat}{l:List Value}(e:h.load b o n=some l):a.load b o n=some l:=by have:=g b (bJ c e);grind[Hp.load]
theorem fC.row{h a:Hp}(c:h.t.Sized h.n)(g:fC h a){b:Nat}{l:List Value}{md:Nat}(r:Row h b l md):Row a b l md:=Row.of_get (g b (r.lt c)) r
theorem ay.keep{a:Type}{h d:Hp}{k:Nat}{enc:a->List Value}{v:Value}{xs:List a}(e:h.t.Sized h.n)(g:fC h d)(s:ay h k enc v xs):ay d k enc v xs:=by
 rcases s with s|⟨b,o,s,c,f,i,j⟩
 . exact .inl s
 . exact .inr ⟨b,o,s,c,f,i,g.load e j⟩
theorem ia.keep{h d:Hp}{v:Value}{m N:Nat}{R:Nat->List Nat}(e:h.t.Sized h.n)(g:fC h d)(r:ia h m v N R):ia d m v N R:=by
 obtain⟨f,j,k,l,n,o,p⟩:=r;exact⟨f,j,k,l,g.row e n,o,fun i q=>by
  obtain⟨w,a,b,c⟩:=p i q;exact⟨w,a,b.keep e g,c⟩⟩
theorem bW.keep{h d:Hp}{m:Nat}{p:Value}{e:Gra}(a:h.t.Sized h.n)(g:fC h d)(n:bW h m p e):bW d m p e:=by obtain⟨b,f,i,j,k,l,o,q,c,r,s,t,u⟩:=n.ex;exact⟨b,f,i,j,k,l,o,g.row a q,⟨c.X.keep a g,c.Y.keep a g,c.A.keep a g⟩,r.keep a g,s.keep a g,t,u⟩
theorem Gr.keep{h a:Hp}(g:Gr h a):fC h a:=g.get
theorem fC.trans{a b c:Hp}(x:fC a b)(n:a.n<=b.n)(y:fC b c):fC a c:=fun i d=>(y i (XZ d n)).trans (x i d)
theorem ItS.keep{hq a h:Hp}{D:Nat->Prop}{F:List Nat}(s:ItS a D h F)(g:fC hq a)(n:hq.n<=a.n)(e: ∀c,c<hq.n->D c):fC hq h:=fun b d=>(s.data b (XZ d n) (e b d)).trans (g b d)
theorem xV{n:Int}(a:0<=n)(b:n<18446744073709551616):ag .u64 n=n:=by obtain⟨m,rfl⟩:=Int.eq_ofNat_of_zero_le a;grind[ag,hf,sgn,pw,X7,X6]
theorem b_andU{E:Env}{t:TypeId}{x y:Operand}{N:Nat}(h:N<4294967296):aZ E .and t x y (.int .u64 (N:Int)) (.int .u64 4294967295)=some (.int .u64 (N:Int)):=by
 have a:X7 N 18446744073709551616=true:=by rw [X6];omega
 have b:Yk N 4294967295=N:=by have:=Nat.and_two_pow_sub_one_eq_mod N 32;simp_all
 have c:=xV (n:=(N:Int)) (by omega) (by omega);have d:iH .and .u64 (.ofNat N) (.ofNat 4294967295)=some (ag .u64 (.ofNat (Yk N 4294967295))):=by simp only [iH,pw];rw [a];rfl
 show(iH .and .u64 (.ofNat N) (.ofNat 4294967295)).map _=_;grind
theorem b_shrU{E:Env}{t:TypeId}{x y:Operand}{kd:IntKind}{N:Nat}(h:N<4294967296):aZ E .shr t x y (.int .u64 (N:Int)) (.int kd 32)=some (.int .u64 0):=by
 have e:N/Nat.pow 2 (bif XX 32 (bitsOf .u64)then 32 else bitsOf .u64)=0:=by show N/4294967296=0;omega
 show(mL .shr .u64 (.ofNat N) (.ofNat 32)).map _=_;show some (Value.int .u64 (.ofNat (N/Nat.pow 2 (bif XX 32 (bitsOf .u64)then 32 else bitsOf .u64))))=_;rw [e];rfl
end Go.Ab

end
section
namespace Go.Ab
open Go.Proofs
set_option maxRecDepth 10000
theorem ii{a:Hp}(k:a.t.Sized a.n){i:Type}{enc:i->List Value}(l: ∀x,(enc x).length=1){v:Value}{xs:List i}(m:ay a 1 enc v xs)(w:xs.length<1000000):Ret zB 68 [v] a fun r d=>Gr a d/\ay d 1 enc r xs/\ ∀c,ar r c->a.n<=c:=by
 have S:=Si k;rcases m with⟨rfl,rfl⟩|⟨b,o,s,c,rfl,p,q⟩
 . refine aa (n:=8) (rs:=[.tmp 2]) rfl Tryz.e68 rfl rfl rfl (lbt rfl) ?_;simp only [BZ,ab,seval];exact⟨S.gr,.inl ⟨rfl,rfl⟩,fun c f=>f.elim⟩
 . refine aa (n:=8) (rs:=[.tmp 2]) rfl Tryz.e68 rfl rfl rfl (lbt rfl) ?_;simp only [BZ,seval];refine ac (bg (by exact Tryz.t38.1) (by exact XW) (by decide) (by rfl)) S ?_;clear S;intro h y S j;simp only [LC,aU,bD,ae,Xq,Xm,Xn,XE,seval]at S;simp only [BZ,seval];refine dX (S.cloneSl (enc:=enc) (xs:=[]) Tryz.t38.1 XW (by decide) Tryz.t38.2.2.2.2.2 (.inr ⟨b,o,s,c,rfl,p,S.old q (fun h=>h)⟩) l (by decide) (by simp only [List.length_nil,Xm];omega) (S.row m0)) ?_;rintro d v ⟨t,g,u,f⟩;simp only [BZ,ab,seval];refine⟨t.gr,by simpa using u,fun c h=>(f c h).elim (fun e=>by omega) (fun e=>Xa S.fr.n e)⟩
theorem cM{a:Hp}(e:a.t.Sized a.n){p:Value}{d:Gra}{f:Nat}(c:bW a f p d):bG zB 47 [p] a (.int .i64 d.nodes):=by have S:=Si e;obtain⟨b,h,i,j,k,l,rfl,r,_⟩:=c.ex;have g:=r.load1 (o:=0) rfl;refine aa (n:=10) (rs:=[.tmp 2]) rfl Tryz.e47 rfl rfl rfl (lbt rfl) ?_;simp only [BZ,ab,g,seval];exact S.gr
theorem oneArc_ok{a:Hp}(k:a.t.Sized a.n){v:Value}{A:List Arc}(g:ay a 3 cE v A){i:Nat}(l:i<A.length):Ret zB 226 [v,.int .i64 i] a fun r m=>Gr a m/\r=.tuple #[.agg ⟨cE A[i]⟩,.bool true]:=by
 have S:=Si k;have p: ¬((i:Int)<0):=by omega
 have q: ¬((A.length:Int)<=(i:Int)):=by omega
 refine aa (n:=19) (rs:=[.cell 4 90,.tmp 5]) rfl Tryz.e226 rfl rfl rfl (lbt rfl) ?_;simp only [BZ];refine ac au S ?_;clear S;intro h s S j;obtain⟨c,o,d,f⟩:=(g.gr S.gr).ix (kd:=.i64) ez l;simp only [BZ,g.lenq,p,q,d,f,seval];refine aw (S.store (i:=0) rfl ?_ ?_ rfl rfl ?_ ono) ?_
 . exact(by exact Tryz.t90.2.1)
 . exact(by intro x e;cases e)
 . exact lbt rfl
 clear S;rintro h ⟨S,t⟩;clear t;simp only [LC,ae,lay,Xi,Xj,seval]at S;simp only [BZ,ab,cE];refine(fd (by decide) (by simp only [aS,al,seval];exact gD Tryz.t90.1 Tryz.t90.2.1 (S.lds (b:=s) (o:=0) (n:=3) m0 (lbt rfl)))).2 ?_;refine(rH (by decide)).2 (gR.2 ?_);exact⟨S.gr,rfl⟩
theorem za{a:Hp}(f:a.t.Sized a.n){m:Nat}{v:Value}{N:Nat}{R:Nat->List Nat}(g:ia a m v N R){i:Nat}(b:i<N):Ret zB 195 [v,.int .i64 i] a fun r c=>Gr a c/\ ∃w,r=.tuple #[w,.bool true]/\ay c 1 eS w (R i):=by
 have S:=Si f;obtain⟨q,s,rfl,_,h,d,j⟩:=g;obtain⟨w,e,k,_⟩:=j i b;have l:=h.load1 e;have o: ¬((i:Int)<0):=by omega
 have p: ¬((N:Int)<=(i:Int)):=by omega
 refine aa (n:=19) (rs:=[.tmp 4,.tmp 5]) rfl Tryz.e195 rfl rfl rfl (lbt rfl) ?_;simp only [BZ,ab,o,p,b,l,seval];exact⟨S.gr,_,rfl,k⟩
theorem q7{a:Hp}(j:a.t.Sized a.n){p:Value}{d:Gra}{k:Nat}(c:bW a k p d){i:Nat}(l:i<d.arcs.length):Ret zB 197 [p,.int .i64 i] a fun r m=>Gr a m/\r=.tuple #[.agg ⟨cE d.arcs[i]⟩,.bool true]:=by
 have S:=Si j;obtain⟨b,w,y,z,A,B,rfl,r,q,_⟩:=c.ex;have s:=r.load1 (o:=3) rfl;refine aa (n:=18) (rs:=[.cell 4 90,.tmp 5]) rfl Tryz.e197 rfl rfl rfl (lbt rfl) ?_;simp only [BZ];refine ac au S ?_;clear S;intro h t S f;simp only [BZ,S.old s (fun h=>h),seval];refine step_ret (oneArc_ok S.ok (q.A.gr S.gr) l) ?_;rintro v h ⟨g,rfl⟩;replace S:=S.call g;clear g;simp only [BZ,cE,seval];refine aw (S.store (i:=0) rfl ?_ ?_ rfl rfl ?_ ono) ?_
 . exact(by exact Tryz.t90.2.1)
 . exact(by intro x e;cases e)
 . exact lbt rfl
 clear S;rintro h ⟨S,u⟩;clear u;simp only [LC,ae,lay,Xi,Xj,seval]at S;simp only [BZ,ab,seval];refine(fd (by decide) (by simp only [aS,al,seval];exact gD Tryz.t90.1 Tryz.t90.2.1 (S.lds (b:=t) (o:=0) (n:=3) m0 (lbt rfl)))).2 ?_;refine(rH (by decide)).2 (gR.2 ?_);exact⟨S.gr,rfl⟩
theorem netOut_ok{d:Hp}(j:d.t.Sized d.n){p:Value}{a:Gra}{k:Nat}(c:bW d k p a)(l:a.arcs.length<1000){i:Nat}(m:i<a.nodes):Ret zB 141 [p,.int .i64 i] d fun r f=>Gr d f/\ay f 1 eS r (outs a.arcs Arc.s a.arcs.length i)/\ ∀c,ar r c->d.n<=c:=by have S:=Si j;obtain⟨b,x,y,z,A,B,rfl,r,C,q,D,_⟩:=c.ex;have s:=r.load1 (o:=4) rfl;refine aa (n:=20) (rs:=[.tmp 4]) rfl Tryz.e141 rfl rfl rfl (lbt rfl) ?_;simp only [BZ,s,seval];refine step_ret (za S.ok q m) ?_;rintro v h ⟨g,w,rfl,e⟩;replace S:=S.call g;clear g;simp only [BZ,seval];have t:=S.fr.n;have u:=qE a.arcs Arc.s a.arcs.length i;refine step_ret (ii S.ok iC e (by omega)) ?_;intro v h ⟨g,e,hc⟩;replace S:=S.call g;clear g;simp only [BZ,ab,seval];exact⟨S.gr,e,fun c h=>Xa t (hc c h)⟩
theorem Af{d:Hp}(j:d.t.Sized d.n){p:Value}{a:Gra}{k:Nat}(c:bW d k p a)(l:a.arcs.length<1000){i:Nat}(m:i<a.nodes):Ret zB 139 [p,.int .i64 i] d fun r f=>Gr d f/\ay f 1 eS r (outs a.arcs Arc.t a.arcs.length i)/\ ∀c,ar r c->d.n<=c:=by have S:=Si j;obtain⟨b,x,y,z,A,B,rfl,r,C,D,q,_⟩:=c.ex;have s:=r.load1 (o:=5) rfl;refine aa (n:=20) (rs:=[.tmp 4]) rfl Tryz.e139 rfl rfl rfl (lbt rfl) ?_;simp only [BZ,s,seval];refine step_ret (za S.ok q m) ?_;rintro v h ⟨g,w,rfl,e⟩;replace S:=S.call g;clear g;simp only [BZ,seval];have t:=S.fr.n;have u:=qE a.arcs Arc.t a.arcs.length i;refine step_ret (ii S.ok iC e (by omega)) ?_;intro v h ⟨g,e,hc⟩;replace S:=S.call g;clear g;simp only [BZ,ab,seval];exact⟨S.gr,e,fun c h=>Xa t (hc c h)⟩
theorem mul64_ok{a:Hp}(c:a.t.Sized a.n){N:Nat}(j:N<1000):bG zB 235 [.int .u64 1,.int .u64 N] a (.tuple #[.int .u64 0,.int .u64 N]):=by have S:=Si c;have d: ∀{t x y},aZ zB .and t x y (.int .u64 1) (.int .u64 4294967295)=some (.int .u64 1):=b_andU (N:=1) (by decide);have e: ∀{t x y},aZ zB .and t x y (.int .u64 0) (.int .u64 4294967295)=some (.int .u64 0):=b_andU (N:=0) (by decide);have f: ∀{t x y b},aZ zB .shr t x y (.int .u64 1) (.int b 32)=some (.int .u64 0):=b_shrU (N:=1) (by decide);have g: ∀{t x y b},aZ zB .shr t x y (.int .u64 0) (.int b 32)=some (.int .u64 0):=b_shrU (N:=0) (by decide);have h:ag .u64 (N:Int)=(N:Int):=xV (by omega) (by omega);have i:ag .u64 0=0:=rfl;refine aa (n:=51) (rs:=[.tmp 4,.tmp 5]) rfl Tryz.e235 rfl rfl rfl (lbt rfl) ?_;simp only [BZ,ab,d,e,f,g,b_andU (N:=N) (by omega),b_shrU (N:=N) (by omega),Int.one_mul,Int.zero_mul,Int.mul_zero,Int.add_zero,h,i,seval];exact S.gr
theorem mul_ok{a:Hp}(b:a.t.Sized a.n){N:Nat}(c:N<1000):bG zB 218 [.int .u64 1,.int .u64 N] a (.tuple #[.int .u64 0,.int .u64 N]):=by have S:=Si b;refine aa (n:=30) (rs:=[.tmp 4,.tmp 5]) rfl Tryz.e218 rfl rfl rfl (lbt rfl) ?_;simp only [BZ,seval];refine ah (mul64_ok S.ok c) ?_;intro h g;replace S:=S.call g;clear g;simp only [BZ,ab,seval];exact S.gr
theorem norm_ok{a:Hp}(j:a.t.Sized a.n){l:List Int}{v:Value}(b:ay a 1 (encI .i64) v l)(k:l.length<1000):
 Ret zB 80 [v] a fun r d=>Gr a d/\ay d 1 (encI .i64) r (norm [] l)/\ ∀c,ar r c->a.n<=c:=by
 have S:=Si j;refine aa (n:=6) (rs:=[.tmp 2]) rfl Tryz.e80 rfl rfl rfl (lbt rfl) ?_;simp only [BZ,seval];refine step_ret (namer_ok S.ok) ?_;intro v h ⟨g,bx,bm,m,n1,n2,R,hg⟩;replace S:=S.call g;replace b:=b.gr g;clear g;subst m;simp only [BZ,seval];refine step_ret (each_ok (ks:=[]) S.ok R hg b k) ?_;rintro r h ⟨f,o,p⟩;simp only [BZ,ab,seval];exact⟨(S.fr.trans f (fun i e=>.inr (by subst e;exact n2))).gr,o,fun c h=>Xa S.fr.n (p c h)⟩
theorem z7 {g:Hp} (t:g.t.Sized g.n) {u v:Value} {l m:List Int} (r:ay g 1 (encI .i64) u l) (s:ay g 1 (encI .i64) v m) (B:l.length<1000000):bG zB 79 [u,v] g (.bool (decide (l=m))):=by
 have S:=Si t;by_cases a:l.length=m.length
 . have hle:((l.length:Int)=(m.length:Int)):=(by omega);refine aa (n:=26) (rs:=[.tmp 4]) rfl Tryz.e79 rfl rfl rfl (lbt rfl) ?_;simp only [BZ,r.lenq,s.lenq,hle,seval];refine az (fun(i:Nat) j h=>i<=l.length/\l.take i=m.take i/\Gr g h/\j 0=u/\j 1=v/\j 12=.int .i64 l.length/\j 13=.int .i64 i) (fun i=>l.length-i) ?_ 0 _ _ ?_
   . clear S;intro i x j h ⟨hi,ht,S,r0,r1,r12,r13⟩;by_cases hlt:i<l.length
     . obtain⟨c,o,d,k⟩:=(r.gr S).ix (kd:=.i64) (aH .i64) hlt;obtain⟨C,D,b,e⟩:=(s.gr S).ix (kd:=.i64) (aH .i64) (a▸hlt);have w:ag .i64 ((i:Int)+1)=((i+1:Nat):Int):=(by rw [wrap64]<;>omega);by_cases p:l[i]=m[i]
       . simp only [BZ,r12,r13,an,hlt,seval];refine av (ax rfl) (q:=0) (ps:=[]) (by kernel_rfl) ?_;simp only [BZ,cls,r0,r1,r13,d,k,b,e,encI,p,w,seval];refine x (i+1) _ _ (by omega) ⟨by omega,?_,S,by simp [am,r0,r1,r12]⟩;rw [Xp hlt,Xp (a▸hlt),ht,p]
       . have f:l≠m:=(by rintro rfl;exact p rfl);simp only [BZ,r12,r13,an,hlt,seval];refine av (ax rfl) (q:=0) (ps:=[]) (by kernel_rfl) ?_;simp only [BZ,cls,ab,r0,r1,d,k,b,e,encI,p,f,seval];exact S
     . have y:l=m:=(by have z:l.take i=l:=Xo (by omega);have A:m.take i=m:=Xo (by omega);rw [z,A]at ht;exact ht);subst y;simp only [BZ,ab,r12,r13,an,hlt,seval];exact S
   . exact⟨Nat.zero_le _,rfl,Gr.refl t,by simp [am,cq,cV,a]⟩
 . have f:l≠m:=(by rintro rfl;exact a rfl);have hle: ¬((l.length:Int)=(m.length:Int)):=(by omega);refine aa (n:=26) (rs:=[.tmp 4]) rfl Tryz.e79 rfl rfl rfl (lbt rfl) ?_;simp only [BZ,ab,r.lenq,s.lenq,hle,f,seval];exact S.gr
def hU:List Int->Int
 | []=>0|x::a=>a.foldl max x
theorem lmax_succ{l:List Int}{i:Nat}(a:1<=i)(hlt:i<l.length):hU (l.take (i+1))=max (hU (l.take i)) l[i]:=by
 cases l with
 |nil=>cases hlt
 | cons x b=>
   obtain⟨j,rfl⟩: ∃j,i=j+1:=⟨i-1,by omega⟩;rw [XV,XV,hU,hU,List.getElem_cons_succ,Xp (by simpa using hlt),List.foldl_append];rfl
theorem lmax_one{l:List Int}(a:0<l.length):hU (l.take 1)=l[0]:=by
 cases l with
 |nil=>cases a
 |cons x b=>rfl
theorem maxInt_ok{f:Hp}(p:f.t.Sized f.n){v:Value}{l:List Int}(g:ay f 1 (encI .i64) v l)(k:1<=l.length)(t:l.length<1000000):bG zB 81 [v] f (.int .i64 (hU l)):=by
 have S:=Si p;have m: ¬((l.length:Int)<1):=by omega
 obtain⟨c,o,a,b⟩:=g.ix (kd:=.i64) (aH .i64) (i:=0) (by omega);have d:iW (some 1) v (.int .i64 0)=_:=a;have q:=lmax_one (l:=l) (by omega);generalize l[0]=x at b q;refine aa (n:=25) (rs:=[.tmp 2]) rfl Tryz.e81 rfl rfl rfl (lbt rfl) ?_;simp only [BZ,g.lenq,m,d,b,encI,seval];refine az (fun(i:Nat) j h=>1<=i/\i<=l.length/\Gr f h/\j 0=v/\j 3=.int .i64 (hU (l.take i))/\j 4=.int .i64 i) (fun i=>l.length-i) ?_ 1 _ _ ?_
 . clear S;intro i s j h ⟨k,hi,S,r0,r3,r4⟩;by_cases hlt:i<l.length
   . obtain⟨c,o,a,b⟩:=(g.gr S).ix (kd:=.i64) (aH .i64) hlt;have w:ag .i64 ((i:Int)+1)=((i+1:Nat):Int):=(by rw [wrap64]<;>omega);have r:=lmax_succ k hlt;generalize l[i]=y at b r;simp only [BZ,r0,r3,r4,(g.gr S).lenq,an,hlt,a,b,encI,w,seval];refine s (i+1) _ _ (by omega) ⟨by omega,by omega,S,by simp [am,r0],?_,by simp [am]⟩;simp only [aS,seval];rw [r]
   . simp only [BZ,ab,r0,r3,r4,(g.gr S).lenq,an,hlt,seval];have e:l.take i=l:=Xo (by omega);rw [e];exact⟨rfl,S⟩
 . exact⟨Xh _,k,Gr.refl p,by simp [am,cq,q]⟩
theorem Aw(ks l:List Int):(norm ks l).length=l.length:=by
 induction l generalizing ks with
 |nil=>rfl|cons x a b=>show(norm _ a).length+1=_;rw [b];rfl
def iP(h:Hp)(n:Nat)(p:Value)(m:List Int):Prop:= ∃b v,p=ptrTo b/\Row h b [v,.int .i64 (hU m+1)] 1/\ay h 1 (encI .i64) v m/\n<=b/\ ∀c,ar v c->n<=c
theorem iP.mo{M:Nat->Prop}{h a:Hp}{n:Nat}{p:Value}{m:List Int}(c:iP h n p m)(g:Mo M h a)(d: ∀b,M b->b<n):iP a n p m:=by obtain⟨b,v,e,r,s,i,f⟩:=c;exact⟨b,v,e,g.has (o:=.row _ 1) r (fun h=>by have:=d _ h;omega),s.mo g (fun c j k=>by have:=d _ k;have:=f c j;omega),i,f⟩
theorem iP.gr{h a:Hp}{n:Nat}{p:Value}{m:List Int}(c:iP h n p m)(g:Gr h a):iP a n p m:=c.mo (M:=NoM) g.fr (fun _ h=>h.elim)
def rx(m:List Int):Prop:=m=[]\/norm [] m≠m\/256<hU m+1
theorem xP{j:Hp}(A:j.t.Sized j.n){v:Value}{m:List Int}(d:ay j 1 (encI .i64) v m)(B:m.length<1000)(H:0<=hU m/\hU m<=1000000):
 Ret zB 25 [v] j fun r t=>Gr j t/\((rx m/\r=.pointer none)\/(¬rx m/\iP t j.n r m)):=by
 have S:=Si A;have I:=Aw [] m;by_cases u:m=[]
 . subst u;refine aa (n:=27) (rs:=[.tmp 2]) rfl Tryz.e25 rfl rfl rfl (lbt rfl) ?_;simp only [BZ,ab,Xb,d.lenq,seval];exact⟨S.gr,.inl (.inl rfl)⟩
 . have C:1<=m.length:=by cases m with
    |nil=>exact absurd rfl u|cons a l=>simp
   have D: ¬((m.length:Int)=0):=(by omega);refine aa (n:=27) (rs:=[.tmp 2]) rfl Tryz.e25 rfl rfl rfl (lbt rfl) ?_;simp only [BZ,d.lenq,D,seval];refine step_ret (norm_ok S.ok d B) ?_;intro v h ⟨g,sl,fr⟩;replace S:=S.call g;replace d:=d.gr g;clear g;by_cases p:norm [] m=m
   . simp only [BZ,seval];refine ah (z7 S.ok sl d (by omega)) ?_;intro h g;replace S:=S.call g;replace d:=d.gr g;clear g;simp only [BZ,p,seval];have E:=S.fr.n;refine step_ret (ii S.ok (aH .i64) d (by omega)) ?_;intro y h ⟨g,i,q⟩;replace S:=S.call g;replace d:=d.gr g;clear g;have F:Fl y:=i.fl;simp only [BZ,seval];refine ah (maxInt_ok S.ok d C (by omega)) ?_;intro h g;replace S:=S.call g;replace d:=d.gr g;replace i:=i.gr g;clear g;have w:ag .i64 (hU m+1)=hU m+1:=(by rw [wrap64]<;>omega);have k:=S.gr;clear S;have S:=Si k.ok;simp only [BZ,w,F,seval];refine ac (bR (by intro x e;cases e)) S ?_;clear S;intro h b S s;simp only [ae]at S;have z:=S.ld (b:=b) (o:=1) m0 rfl;by_cases f:256<hU m+1
     . simp only [BZ,ab,f,z,seval];exact⟨k.trans S.gr,.inl (.inr (.inr f))⟩
     . simp only [BZ,ab,f,z,seval];exact⟨k.trans S.gr,.inr ⟨by rintro(h|h|h)<;>contradiction,b,y,rfl,S.row m0,i.gr S.gr,Xa k.n s,fun c G=>Xa E (q c G)⟩⟩
   . simp only [BZ,seval];refine ah (z7 S.ok sl d (by omega)) ?_;intro h g;replace S:=S.call g;replace d:=d.gr g;clear g;simp only [BZ,ab,p,seval];exact⟨S.gr,.inl (.inr (.inl p))⟩
theorem mU{a:Hp}(e:a.t.Sized a.n){p:Value}{d:Gra}{f:Nat}(c:bW a f p d):bG zB 85 [p] a (.int .i64 d.arcs.length):=by have S:=Si e;obtain⟨b,i,j,k,l,m,rfl,r,g,_⟩:=c.ex;have h:=r.load1 (o:=3) rfl;refine aa (n:=11) (rs:=[.tmp 2]) rfl Tryz.e85 rfl rfl rfl (lbt rfl) ?_;simp only [BZ,ab,h,g.A.lenq,seval];exact S.gr
def my(h:Hp)(p:Value)(m:List Int)(n:Int):Prop:=(p=.pointer none/\m=[]/\n=0)\/((∃k,iP h k p m)/\n=hU m+1)
theorem my.gr{h a:Hp}{p:Value}{m:List Int}{n:Int}(g:Gr h a)(c:my h p m n):my a p m n:=c.imp (fun h=>h) (fun⟨⟨k,h⟩,e⟩=>⟨⟨k,h.gr g⟩,e⟩)
theorem map_ok{a:Hp}(e:a.t.Sized a.n){p:Value}{m:List Int}{n:Int}(c:my a p m n)(f:m.length<1000000):Ret zB 34 [p] a fun r d=>Gr a d/\ay d 1 (encI .i64) r m:=by
 have S:=Si e;rcases c with⟨rfl,rfl,rfl⟩|⟨⟨_,b,v,rfl,r,s,_,_⟩,rfl⟩
 . refine aa (n:=10) (rs:=[.tmp 2]) rfl Tryz.e34 rfl rfl rfl (lbt rfl) ?_;simp only [BZ,ab,seval];exact⟨S.gr,.inl ⟨rfl,rfl⟩⟩
 . have i:=r.load1 (o:=0) rfl;refine aa (n:=10) (rs:=[.tmp 2]) rfl Tryz.e34 rfl rfl rfl (lbt rfl) ?_;simp only [BZ,i,seval];refine step_ret (ii S.ok (aH .i64) s f) ?_;intro v h ⟨g,sl,_⟩;replace S:=S.call g;clear g;simp only [BZ,ab,seval];exact⟨S.gr,sl⟩
theorem uj{a:Hp}(d:a.t.Sized a.n){p:Value}{m:List Int}{n:Int}(c:my a p m n):bG zB 84 [p] a (.int .i64 n):=by
 have S:=Si d;rcases c with⟨rfl,rfl,rfl⟩|⟨⟨_,b,v,rfl,r,s,_,_⟩,rfl⟩
 . refine aa (n:=9) (rs:=[.tmp 2]) rfl Tryz.e84 rfl rfl rfl (lbt rfl) ?_;simp only [BZ,ab,seval];exact S.gr
 . have e:=r.load1 (o:=1) rfl;refine aa (n:=9) (rs:=[.tmp 2]) rfl Tryz.e84 rfl rfl rfl (lbt rfl) ?_;simp only [BZ,ab,e,seval];exact S.gr
def qk(h:Hp)(p:Value)(a w:Int)(c:Bool):Prop:=(p=.pointer none/\a=0/\w=0/\c=false)\/ ∃b x y,p=ptrTo b/\Row h b [.int .i64 a,.int .i64 w,x,y] 1/\c=true
theorem qk.gr{h d:Hp}{p:Value}{a w:Int}{f:Bool}(g:Gr h d)(c:qk h p a w f):qk d p a w f:=c.imp (fun h=>h) (fun⟨b,x,y,e,r,n⟩=>⟨b,x,y,e,r.gr g,n⟩)
theorem lu{d:Hp}(e:d.t.Sized d.n){p:Value}{a w:Int}{f:Bool}(c:qk d p a w f):bG zB 106 [p] d (.int .i64 a):=by
 have S:=Si e;rcases c with⟨rfl,rfl,rfl,rfl⟩|⟨b,x,y,rfl,r,rfl⟩
 . refine aa (n:=9) (rs:=[.tmp 2]) rfl Tryz.e106 rfl rfl rfl (lbt rfl) ?_;simp only [BZ,ab,seval];exact S.gr
 . have g:=r.load1 (o:=0) rfl;refine aa (n:=9) (rs:=[.tmp 2]) rfl Tryz.e106 rfl rfl rfl (lbt rfl) ?_;simp only [BZ,ab,g,seval];exact S.gr
theorem ou{d:Hp}(e:d.t.Sized d.n){p:Value}{a w:Int}{f:Bool}(c:qk d p a w f):bG zB 107 [p] d (.int .i64 w):=by
 have S:=Si e;rcases c with⟨rfl,rfl,rfl,rfl⟩|⟨b,x,y,rfl,r,rfl⟩
 . refine aa (n:=9) (rs:=[.tmp 2]) rfl Tryz.e107 rfl rfl rfl (lbt rfl) ?_;simp only [BZ,ab,seval];exact S.gr
 . have g:=r.load1 (o:=1) rfl;refine aa (n:=9) (rs:=[.tmp 2]) rfl Tryz.e107 rfl rfl rfl (lbt rfl) ?_;simp only [BZ,ab,g,seval];exact S.gr
theorem allB_ok{b:Hp}(j:b.t.Sized b.n){v:Value}{l:List Bool}(k:ay b 1 encB v l)(p:l.length<1000):bG zB 105 [v] b (.bool (l.all id)):=by
 have S:=Si j;refine aa (n:=14) (rs:=[.tmp 2]) rfl Tryz.e105 rfl rfl rfl (lbt rfl) ?_;simp only [BZ,k.lenq,seval];refine az (fun(i:Nat) f h=>i<=l.length/\(l.take i).all id=true/\Gr b h/\f 5=v/\f 6=.int .i64 l.length/\f 7=.int .i64 i) (fun i=>l.length-i) ?_ 0 _ _ ?_
 . clear S;intro i m f h ⟨hi,ht,S,r5,r6,r7⟩;by_cases hlt:i<l.length
   . obtain⟨c,o,a,d⟩:=(k.gr S).ix (kd:=.i64) encB_len hlt;have w:ag .i64 ((i:Int)+1)=((i+1:Nat):Int):=(by rw [wrap64]<;>omega);cases g:l[i]with
     | true=>simp only [BZ,r5,r6,r7,an,hlt,a,d,encB,g,w,seval];refine m (i+1) _ _ (by omega) ⟨by omega,?_,S,by simp [am,r5,r6]⟩;rw [Xp hlt,List.all_append,ht,g];rfl| false=>have e:l.all id=false:=(by rw [List.all_eq_false];exact⟨_,XA hlt,by simp [g]⟩);simp only [BZ,ab,r5,r6,r7,an,hlt,a,d,encB,g,seval];rw [e];exact⟨rfl,S⟩
   . simp only [BZ,ab,r6,r7,an,hlt,seval];rw [Xo (by omega)]at ht;rw [ht];exact⟨rfl,S⟩
 . exact⟨Nat.zero_le _,rfl,Gr.refl j,by simp [am,cq]⟩
theorem AY{e:Hp}(i:e.t.Sized e.n){p q:Value}{b:Gra}{m:List Int}{n:Int}{j:Nat}(c:bW e j p b)(d:my e q m n)(l:1<=b.nodes)(k:m.length<1000000):bG zB 82 [p,q] e (.bool (decide (m.length=b.nodes))):=by
 have S:=Si i;have a:(0:Int)<(b.nodes:Int):=by omega
 have f:(b.nodes:Int)>0:=a;refine aa (n:=16) (rs:=[.tmp 4]) rfl Tryz.e82 rfl rfl rfl (lbt rfl) ?_;simp only [BZ,seval];refine ah (cM S.ok c) ?_;intro h g;replace S:=S.call g;replace c:=c.gr g;replace d:=d.gr g;clear g;simp only [BZ,a,seval];refine step_ret (map_ok S.ok d k) ?_;intro v h ⟨g,sl⟩;replace S:=S.call g;replace c:=c.gr g;replace d:=d.gr g;clear g;simp only [BZ,sl.lenq,seval];refine ah (cM S.ok c) ?_;intro h g;replace S:=S.call g;replace c:=c.gr g;replace d:=d.gr g;clear g;simp only [BZ,ab,seval];refine⟨?_,S.gr⟩;congr 1;by_cases h:m.length=b.nodes
 . simp [h]
 . have: ¬((m.length:Int)=(b.nodes:Int)):=(by omega);simp [h,this]
theorem Ch{f:Hp}(t:f.t.Sized f.n){p q r:Value}{i:Gra}{m:List Int}{n a w:Int}{j:Bool}{u:Nat}(c:bW f u p i)(d:my f q m n)(e:qk f r a w j)(v:1<=i.nodes)(z:m.length<1000000):
 bG zB 48 [p,q,r] f (.bool (decide (m.length=i.nodes)&&j&&decide (a=n)&&decide (w=i.arcs.length))):=by
 have S:=Si t;have A: ∀E:Env,oK E 74=true-> ∀x y,aZ E .neq 74 x y r (.pointer none)=some (.bool j):=by
  intro E k x y;rcases e with⟨rfl,_,_,rfl⟩|⟨b,_,_,rfl,_,rfl⟩
  . exact n_pnil k
  . exact n_ptr k
 refine aa (n:=24) (rs:=[.tmp 6]) rfl Tryz.e48 rfl rfl rfl (lbt rfl) ?_;simp only [BZ,seval];refine ah (AY S.ok c d v z) ?_;intro h g;replace S:=S.call g;replace c:=c.gr g;replace d:=d.gr g;replace e:=e.gr g;clear g;simp only [BZ,A zB Tryz.t74.2.2.2.2.1,seval];refine ah (lu S.ok e) ?_;intro h g;replace S:=S.call g;replace c:=c.gr g;replace d:=d.gr g;replace e:=e.gr g;clear g;simp only [BZ,seval];refine ah (uj S.ok d) ?_;intro h g;replace S:=S.call g;replace c:=c.gr g;replace d:=d.gr g;replace e:=e.gr g;clear g;simp only [BZ,seval];refine ah (ou S.ok e) ?_;intro h g;replace S:=S.call g;replace c:=c.gr g;replace d:=d.gr g;replace e:=e.gr g;clear g;simp only [BZ,seval];refine ah (mU S.ok c) ?_;intro h g;replace S:=S.call g;replace c:=c.gr g;replace d:=d.gr g;replace e:=e.gr g;clear g;simp only [BZ,seval];refine ac (bg (by exact Tryz.t228.1) (by exact Tryz.e4E) (by decide) (by rfl)) S ?_;clear S;intro h B S s;simp only [LC,aU,bD,ae,Xq,Xm,Xn,XE,seval]at S;simp only [BZ,seval];refine ah (allB_ok (l:=[decide (m.length=i.nodes),j,decide (a=n),decide (w=i.arcs.length)]) S.ok (.inr ⟨B,0,none,4,rfl,Xh _,S.lds (o:=0) (n:=4) m0 (lbt rfl)⟩) (by simp)) ?_;intro h g;replace S:=S.call g;clear g;simp only [BZ,ab,seval];exact⟨by simp [Bool.and_assoc],S.gr⟩
end Go.Ab
end
section
namespace Go.Ab
theorem Av{E:Env}{t e:TypeId}{b n N:Nat}{kd:IntKind}(c:E.und t=some (.slice e))(d:E.sz e=some 1)(f:n<N):cK E t (.slice (some ⟨b,0,none⟩) N N) (some (.int kd (n:Int))) none none=some (.slice (some ⟨b,n,none⟩) (N-n) (N-n)):=by
 have a: ∀n:Nat,fm (n:Int)=some n:=fun n=>rfl;have g:XR N n=false:=by
  cases h:XR N n with
  |false=>rfl|true=>have:=Ye h;omega
 simp only [cK,c,dp,dR,a,Xe (X8 f),cond_true,d,Xk,cond_false,g,gQ,Xn,Xm]
theorem yJ{E:Env}{t e:TypeId}{b n N k:Nat}{kd:IntKind}(c:E.und t=some (.slice e))(d:E.sz e=some k)(f:n<=N):cK E t (.slice (some ⟨b,0,none⟩) N N) none (some (.int kd (n:Int))) none=some (.slice (some ⟨b,0,none⟩) n N):=by have a: ∀n:Nat,fm (n:Int)=some n:=fun n=>rfl;simp only [cK,c,dp,dR,a,Xe f,cond_true,d,Xk,cond_false,gQ,Xq,Yv,Ys];cases XR N 0<;>rfl
section
variable{M:Nat->Prop}{h0 h:Hp}{L:List (Nat×Ob)}{G:List GL}{E:Env}{t e:TypeId}
theorem St.copyO(S:St M h0 h L G){i b o len cap f o2 m n:Nat}{p c:Option Nat}{cs l:List Value}(g:L[i]? =some (b,.row cs 1))(q:E.und t=some (.slice e))(r:E.sz e=some 1)(v:0<dk m len)(j:h.load f o2 (dk m len*1)=some l)(d:o+l.length<=cs.length)(hf:l.all iQ=true){ts:List TypeId}:
 ∃k w,copyV E h (t::ts) (.slice (some ⟨b,o,p⟩) len cap) (.slice (some ⟨f,o2,c⟩) m n)=some (k,w)/\w=.int .i64 (dk m len:Nat)/\St M h0 k (L.set i (b,.row (lay cs o l) 1)) G:=by
 obtain⟨y,s,u⟩:=(S.row (Xd g)).store S.ok ono (o:=o) (vs:=l) d hf;have a:=load_len j;refine⟨h.put b y,_,?_,rfl,S.put g u⟩;simp only [copyV,q,r,j];cases l with
 |nil=>simp at a;omega|cons x z=>simp only [s];rfl
end
theorem jn{a b:Nat}(h:a<=b):dk a b=a:=by unfold dk;rw [Xe h];rfl
theorem uv{a b:Nat}(h:b<=a):dk a b=b:=by
 unfold dk;cases c:XX a b with
 |false=>rfl|true=>have:=lbt c;show a=b;omega
theorem ut{X Z:Value}{n c k:Nat}(e:c<=k):lay (zM n X++zM k Z) n (zM c X)=zM (n+c) X++zM (k-c) Z:=by
 refine XP fun j=>?_;rw [jO (by simp;omega),XS,Yl,Yl,XS,XS,Xu,Xu,Xu,Xu,Xu];by_cases a:j<n
 . rw [if_neg (by omega),if_pos a,if_pos a,if_pos (by omega),if_pos (by omega)]
 . by_cases b:j<n+c
   . rw [if_pos (by omega),if_pos (by omega),if_pos b,if_pos b]
   . rw [if_neg (by omega),if_neg a,if_neg b];by_cases d:j-n<k
     . rw [if_pos d,if_pos (by omega)]
     . rw [if_neg d,if_neg (by omega)]
theorem lV(z:Value): ∀n,aU [z] n=zM n z
 |0=>rfl|n+1=>by simp [aU,lV z n,List.replicate_succ]
def ClF(O:List Nat)(f:Int->Option Value):Prop:= ∀u:Nat,f (u:Int)=if u∈O then some (.int .i64 1)else none
end Go.Ab

end
section
namespace Go.Ab
section
variable{M:Nat->Prop}{h0 h h':Hp}{L L':List (Nat×Ob)}{G G':List GL}{Fh:List Nat}
theorem St.baseF(S:St M h0 h L G)(Fh:List Nat):St (fun c=>c∈keys L G\/c∈Fh) h h L G:=
 ⟨Mo.refl S.ok,fun p a=>⟨.inr (.inl (mN a)),(S.own p a).2⟩,fun p a=>⟨(S.gown p a).1,fun b d=>.inr (.inl (kX a d))⟩,S.apart⟩
theorem St.rebaseF(S:St M h0 h L G)(e: ∀c∈Fh,h0.n<=c\/M c)(T:St (fun c=>c∈keys L G\/c∈Fh) h h' L' G'):St M h0 h' L' G':=by have f: ∀b,h.n<=b\/(b∈keys L G\/b∈Fh)->h0.n<=b\/M b:=fun b a=>a.elim (fun a=>.inl (Xa S.fr.n a)) (fun a=>a.elim S.key_own (e b));exact⟨S.fr.trans T.fr fun b a=>(a.elim S.key_own (e b)).symm,fun p d=>⟨f _ (T.own p d).1,(T.own p d).2⟩,fun p d=>⟨(T.gown p d).1,fun b a=>f b ((T.gown p d).2 b a)⟩,T.apart⟩
theorem St.callF(S:St M h0 h L G){i b:Nat}{o o':Ob}(l:L[i]? =some (b,o))(f:Mo (fun c=>c∈Fh\/c=b) h h')(m: ∀c∈Fh,(M c\/h0.n<=c)/\c∉keys L G)(r:Has h' b o'):St M h0 h' (L.set i (b,o')) G:=by
 have s:=S.own _ (Xd l);have g:(keys L G)[i]? =some b:=jV l;refine⟨S.fr.trans f (fun c k=>by grind),fun p a=>?_,fun p a=>⟨(S.gown p a).1.of_get fun c k=>?_,(S.gown p a).2⟩,?_⟩
 . rcases mw a with rfl|⟨j,n,a⟩
   . grind
   . have d:=S.own p (Xd a);refine⟨d.1,d.2.of_get (f.get _ (d.2.lt S.ok) fun e=>?_)⟩;rcases e with e|e
     . exact(m _ e).2 (mN (Xd a))
     . apply n;have q:(keys L G)[j]? =some b:=(by rw [jV a];rw [e]);exact qL S.apart q g
 . refine f.get c ((S.gown p a).1.lt S.ok k) fun e=>?_;rcases e with e|e
   . exact(m _ e).2 (kX a k)
   . subst e;have d:=S.apart;unfold keys at d;rw [X4]at d;exact d.2.2 c (List.mem_map.2 ⟨_,Xd l,rfl⟩) c (List.mem_filterMap.2 ⟨p,a,k⟩) rfl
 . have:keys (L.set i (b,o')) G=keys L G:=(by unfold keys;congr 1;rw [List.map_set];refine XP fun j=>?_;grind);rw [this];exact S.apart
theorem St.stepF(S:St M h0 h L G)(f:Mo (· ∈Fh) h h')(b: ∀c∈Fh,(M c\/h0.n<=c)/\c∉keys L G):St M h0 h' L G:=
 S.step f (fun c a=>(b c a).1) (fun c a d=>(b c d).2 a)
theorem St.permL(S:St M h0 h L G)(p:L'.Perm L):St M h0 h L' G:=
 ⟨S.fr,fun x a=>S.own x (p.mem_iff.1 a),S.gown,by
  have:(keys L' G).Perm (keys L G):=(p.map Xv).append_right _;exact this.nodup_iff.2 S.apart⟩
end
theorem St.mono{M M':Nat->Prop}{d h:Hp}{L:List (Nat×Ob)}{G:List GL}(S:St M d h L G)(c: ∀b,M b->M' b):St M' d h L G:=
 ⟨S.fr.mono c,fun p a=>⟨(S.own p a).1.imp (fun h=>h) (c _),(S.own p a).2⟩,fun p a=>⟨(S.gown p a).1,fun b e=>((S.gown p a).2 b e).imp (fun h=>h) (c _)⟩,S.apart⟩
theorem Dj.exm{B:List Arc}{s N:Nat}{O:List Nat}{D:Nat->Nat}{K:Nat->Option Int}{b ex':Arc->Prop}(d:Dj B s N O D K b)(h: ∀a∈B,b a->ex' a):Dj B s N O D K ex':=
 ⟨d.i1,d.i2,d.i2f,d.i3,fun a c e f=>d.i4 a c e (fun g=>f (h a c g)),d.i5,d.nd,d.lt⟩
def ue:Value->Option Tch
 | .map (some r)=>some (.blk r)| .slice (some a) _ _=>some (.blk a.block)|_=>none
theorem sJ{ρ:Operand->Value}{b:Bool}{x y:Operand}{ts:Array TypeId}{h a:Hp}:cH ρ b (.call ⟨.builtin .append,#[x,y],ts⟩) h a=ue (ρ x):=by simp only [cH,dG,jK,fe,touch,cond_false];cases ρ x<;>first|rfl|(rename_i x;cases x<;>rfl)|(rename_i x _ _;cases x<;>rfl)
theorem pair_x{x:Option Tch}:kK x none=true:=by
 cases x with
 |none=>rfl|some b=>cases b<;>rfl
theorem At{i:Nat}:cF i []=none:=rfl
end Go.Ab

end
section
namespace Go.Ab
def SlW(h:Hp)(kd:IntKind)(v:Value)(xs:List Int):Prop:=(v=.slice none 0 0/\xs=[])\/ ∃b o c,v=.slice (some ⟨b,o,none⟩) xs.length c/\xs.length<=c/\h.load b o (xs.length*1)=some (xs.flatMap (encI kd))
theorem SlW.sl{h:Hp}{kd:IntKind}{v:Value}{xs:List Int}(s:SlW h kd v xs):ay h 1 (encI kd) v xs:=s.imp (fun h=>h) (fun⟨b,o,c,a,d,e⟩=>⟨b,o,none,c,a,d,e⟩)
theorem SlW.low{E:Env}{h:Hp}{kd kd':IntKind}{t e:TypeId}{v:Value}{xs:List Int}(g:E.und t=some (.slice e))(j:E.sz e=some 1)(s:SlW h kd v xs){n:Nat}(a:n<=xs.length):
 ∃v',cK E t v none (some (.int kd' (n:Int))) none=some v'/\ay h 1 (encI kd) v' (xs.take n)/\ ∀c,ar v' c->ar v c:=by
 have f: ∀n:Nat,fm (n:Int)=some n:=fun n=>rfl;rcases s with⟨rfl,rfl⟩|⟨b,o,c,rfl,k,q⟩
 . have:n=0:=(by simpa using a);subst this;refine⟨.slice none 0 0,?_,.inl ⟨rfl,rfl⟩,fun c d=>d⟩;simp only [cK,g,dp,dR,f,j];rfl
 . refine⟨.slice (some ⟨b,o,none⟩) n c,?_,.inr ⟨b,o,none,c,?_,?_,?_⟩,fun c d=>d⟩
   . simp only [cK,g,dp,dR,f,Xe (Xa a k),cond_true,j,Xk,cond_false,Ys,gQ,Xq,Yv];by_cases d:c=0
     . subst d;rfl
     . rw [show XR c 0=false by cases c with|zero=>exact absurd rfl d|succ c=>rfl];rfl
   . rw [Xy,Yb a]
   . rw [Xy,Yb a];exact Xa a k
   . rw [Xy,Yb a];have:=gf q (i:=0) (m:=n*1) (by omega);rw [Yv,Xx]at this;rw [this];congr 1;refine XP fun i=>?_;have p: ∀l:List Int,l.flatMap (encI kd)=l.map fun x=>.int kd x:=fun l=>(by rw [Xf,XM,Xf];rfl);rw [p,p,Xn,List.map_take]
end Go.Ab

end
section
namespace Go.Ab
open Go.Proofs
set_option maxRecDepth 10000
def iota(k:Nat):List Int:=(zO k).map fun(i:Nat)=>(i:Int)
theorem AA(k:Nat):(iota k).length=k:=by simp [iota]
theorem yy(k:Nat):iota (k+1)=iota k++[(k:Int)]:=by simp [iota,List.range_succ]
theorem pos_app(l:List Int)(x y:Int):pos (l++[y]) x=match pos l x with|some i=>some i|none=>if x=y then some l.length else none:=by
 induction l with
 |nil=>simp [pos]| cons z a b=>
   rw [XF,pos,pos];by_cases h:x=z
   . rw [if_pos h,if_pos h]
   . rw [if_neg h,if_neg h,b];cases pos a x with
     |some i=>rfl|none=>by_cases c:x=y<;>simp [c]
theorem AT(k j:Nat):pos (iota k) (j:Int)=if j<k then some j else none:=by
 induction k with
 |zero=>rfl| succ k a=>
   rw [yy,pos_app,a,AA];by_cases h:j<k
   . rw [if_pos h,if_pos (show j<k+1 by omega)]
   . rw [if_neg h];by_cases b:j=k
     . subst b;simp
     . have: ¬((j:Int)=(k:Int)):=(by omega);simp only [this,if_false];rw [if_neg (by omega)]
theorem pos_lt{l:List Int}{x:Int}{i:Nat}(h:pos l x=some i):i<l.length:=by
 induction l generalizing i with
 |nil=>cases h
 | cons y b c=>
   rw [pos]at h;by_cases e:x=y
   . rw [if_pos e]at h;cases h;simp
   . rw [if_neg e]at h;cases a:pos b x with
     |none=>rw [a]at h;cases h
     |some j=>rw [a]at h;cases h;have:=c a;simp;omega
theorem norm_idem(ks l:List Int):norm (iota ks.length) (norm ks l)=norm ks l:=by
 induction l generalizing ks with
 |nil=>rfl| cons x c a=>
   rw [norm,norm];unfold oH ol;cases b:pos ks x with
   | some i=>simp only [];rw [AT,if_pos (pos_lt b)];simp only [];rw [a]| none=>simp only [];rw [AT,if_neg (by omega)];simp only [];rw [AA,<-yy];have:=a (ks++[x]);rw [XD,Yh]at this;rw [this]
theorem yh(ks l:List Int): ∀x∈norm ks l,0<=x/\x<=((ks.length+l.length:Nat):Int):=by
 induction l generalizing ks with
 |nil=>intro x a;cases a
 | cons y e b=>
   intro x a;rw [norm]at a;rcases List.mem_cons.1 a with rfl|a
   . have:oH ks y<=ks.length:=by
      unfold oH;cases c:pos ks y with
      |some i=>exact X8 (pos_lt c)|none=>exact Xh _
     simp;omega
   . have d:=b _ x a;have:(ol ks y).length<=ks.length+1:=(by unfold ol;cases pos ks y<;>simp);simp at d⊢;omega
theorem fold_bd(K:Int)(l:List Int)(a:Int)(b:0<=a/\a<=K)(h: ∀x∈l,0<=x/\x<=K):0<=l.foldl max a/\l.foldl max a<=K:=by
 induction l generalizing a with
 |nil=>exact b| cons x e c=>
   have f:=h x (by simp);exact c (max a x) (by omega) (fun y d=>h y (by simp [d]))
theorem lmax_bd{K:Int}(a:0<=K){l:List Int}(h: ∀x∈l,0<=x/\x<=K):0<=hU l/\hU l<=K:=by
 cases l with
 |nil=>exact⟨Int.le_refl _,a⟩|cons x b=>exact fold_bd K b x (h x (by simp)) (fun y c=>h y (by simp [c]))
theorem ay.blt{a:Type}{h:Hp}{k:Nat}{enc:a->List Value}{v:Value}{xs:List a}(f:h.t.Sized h.n)(s:ay h k enc v xs){c:Nat}(d:ar v c):c<h.n:=by
 rcases s with⟨rfl,_⟩|⟨b,o,_,_,rfl,_,g⟩
 . exact d.elim
 . have:b=c:=d;subst this;cases e:h.get b with
   |none=>simp [Hp.load,e]at g|some x=>exact ik f e
end Go.Ab
end
section
namespace Go.Ab
theorem zg{z:Nat}(h:z<256):ag .u8 (z:Int)=(z:Int):=by
 show ag .u8 (.ofNat z)=_;unfold ag;simp only [hf,sgn,pw];have:X7 z 256=true:=by rw [X6];exact h
 rw [this];rfl
section
variable{E:Env}{t:TypeId}{p q:Operand}{x y i:Nat}
theorem bits8(op:BinOp)(a:x<256)(b:y<256):iH op .u8 (x:Int) (y:Int)=match op with
 | .and=>some (ag .u8 ((Yk x y:Nat):Int))| .or=>some (ag .u8 ((Nat.lor x y:Nat):Int))| .xor=>some (ag .u8 ((Nat.xor x y:Nat):Int))| .andNot=>some (ag .u8 ((Nat.xor x (Yk x y):Nat):Int))|_=>none:=by
 show iH op .u8 (.ofNat x) (.ofNat y)=_;have c:X7 x (pw .u8)=true:=by rw [X6];exact a
 have d:X7 y (pw .u8)=true:=by rw [X6];exact b
 unfold iH;simp only [c,d,Bool.and_self,cond_true];cases op<;>rfl
theorem b_or8(a:x<256)(b:y<256):aZ E .or t p q (.int .u8 (x:Int)) (.int .u8 (y:Int))=some (.int .u8 ((x|||y:Nat):Int)):=by show(bif i6 .u8 .u8 then(iH .or .u8 (x:Int) (y:Int)).map (Value.int .u8 ·)else none)=_;rw [bits8 .or a b];simp only [];rw [show Nat.lor x y=x|||y from rfl,zg (Nat.or_lt_two_pow (n:=8) a b)];rfl
theorem yK(a:x<256)(b:y<256):aZ E .andNot t p q (.int .u8 (x:Int)) (.int .u8 (y:Int))=some (.int .u8 ((x ^^^(x&&& y):Nat):Int)):=by show(bif i6 .u8 .u8 then(iH .andNot .u8 (x:Int) (y:Int)).map (Value.int .u8 ·)else none)=_;rw [bits8 .andNot a b];simp only [];rw [show Nat.xor x (Yk x y)=x ^^^(x&&& y)from rfl,zg (X2 (n:=8) a (X3 Yc a))];rfl
theorem b_shl8{k:IntKind}(a:i<8):aZ E .shl t p q (.int .u8 1) (.int k (i:Int))=some (.int .u8 ((2 ^i:Nat):Int)):=by
 have:i=0\/i=1\/i=2\/i=3\/i=4\/i=5\/i=6\/i=7:=by omega
 rcases this with rfl|rfl|rfl|rfl|rfl|rfl|rfl|rfl<;>rfl
end
theorem pow8{i:Nat}(h:i<8):2 ^i<256:=Nat.pow_lt_pow_right (by decide) h
def setB(x i:Nat):Nat:=(x ^^^(x&&& 2 ^i))|||2 ^i
theorem setB_at(x i j:Nat):(setB x i).testBit j=if j=i then true else x.testBit j:=by
 unfold setB;rw [Nat.testBit_or,Nat.testBit_xor,Nat.testBit_and,Nat.testBit_two_pow];by_cases e:j=i
 . subst e;simp
 . have a: ¬i=j:=fun h=>e h.symm;simp [e,a]
theorem setB_lt{x i:Nat}(a:x<256)(b:i<8):setB x i<256:=
 Nat.or_lt_two_pow (n:=8) (X2 (n:=8) a (X3 Yc a)) (pow8 b)
end Go.Ab

end
section
namespace Go.Ab
open Go.Proofs
set_option maxRecDepth 10000

def gp(n:Nat)(B:Nat->Nat):List Value:=(zO n).map fun j=>.int .u8 (B j:Nat)
theorem nG{n:Nat}{B:Nat->Nat}:(gp n B).length=n:=by simp [gp]
theorem uL{n j:Nat}{B:Nat->Nat}(h:j<n):(gp n B)[j]? =some (.int .u8 (B j:Nat)):=n9 (F:=fun j=>Value.int .u8 ((B j:Nat):Int)) h
theorem vU{n j x:Nat}{B:Nat->Nat}:(gp n B).set j (.int .u8 (x:Nat))=gp n (gK B j x):=by have:=kD (N:=n) (k:=j) (F:=fun j=>Value.int .u8 ((B j:Nat):Int)) (F':=fun u=>Value.int .u8 ((gK B j x u:Nat):Int)) (fun i _ a=>by simp [gK,a]);unfold gp;rw [<-this];simp [gK]
structure iz(h:Hp)(bp bb rows wide long:Nat)(B:Nat->Nat):Prop where
 r:Row h bp [.int .i64 rows,.int .i64 wide,.int .i64 long,.slice (some ⟨bb,0,none⟩) (rows*long) (rows*long)] 1
 b:Row h bb (gp (rows*long) B) 1
 lt: ∀j,B j<256
theorem iz.gr{h d:Hp}{e f a b c:Nat}{B:Nat->Nat}(m:iz h e f a b c B)(g:Gr h d):iz d e f a b c B:=⟨m.r.gr g,m.b.gr g,m.lt⟩
theorem iz.bits{h:Hp}{d e a b c:Nat}{B:Nat->Nat}(m:iz h d e a b c B):qk h (ptrTo d) a b true:=.inr ⟨d,_,_,rfl,m.r,rfl⟩
def bitB(B:Nat->Nat)(a r i:Nat):Bool:=(B (r*a+i/8)).testBit (i%8)
theorem BB{B:Nat->Nat}{b r i d c:Nat}(g:i/8<b)(j:c/8<b):bitB (gK B (r*b+i/8) (setB (B (r*b+i/8)) (i%8))) b d c=if d=r/\c=i then true else bitB B b d c:=by
 unfold bitB gK;by_cases e:d*b+c/8=r*b+i/8
 . rw [if_pos e,setB_at];have k:d=r:=(by have a:(d*b+c/8)/b=(r*b+i/8)/b:=(by rw [e]);rw [Nat.mul_comm d,Nat.mul_comm r,Nat.mul_add_div (by omega),Nat.mul_add_div (by omega),Nat.div_eq_of_lt g,Nat.div_eq_of_lt j]at a;omega);subst k;have e8:c/8=i/8:=(by omega);rw [e];by_cases f:c%8=i%8
   . rw [if_pos f,if_pos ⟨rfl,by omega⟩]
   . rw [if_neg f,if_neg (fun h=>f (by rw [h.2]))]
 . rw [if_neg e,if_neg (fun h=>e (by rw [h.1,h.2]))]
theorem zY{f:Hp}(v:f.t.Sized f.n){a w:Nat}(y:a<=100)(D:w<=1000):Ret zB 83 [.int .i64 (a:Nat),.int .i64 (w:Nat)] f fun r l=>Gr f l/\ ∃c d,r=ptrTo c/\f.n<=c/\f.n<=d/\c≠d/\iz l c d a w ((w+7)/8) (fun _=>0):=by
 have S:=Si v;have m: ¬((a:Int)<0):=by omega
 have o: ¬((w:Int)<0):=by omega
 have p: ¬((67108864:Int)<(w:Int)):=by omega
 have q:ag .i64 ((w:Int)+8)=(w:Int)+8:=by rw [wrap64]<;>omega
 have s:ag .i64 ((w:Int)+8-1)=((w+7:Nat):Int):=by rw [wrap64]<;>omega
 have i:(w+7)/8<=126:=by omega
 have j:ag .i64 ((((w+7:Nat):Int)).tdiv 8)=(((w+7)/8:Nat):Int):=by rw [XK (by omega),show(((w+7:Nat):Int)/8)=(((w+7)/8:Nat):Int) by omega,wrap64]<;>omega
 generalize E:(w+7)/8=K at i j;have F:a*K<=100*126:=Yg y i;have t:ag .i64 ((a:Int)*(K:Int))=((a*K:Nat):Int):=by rw [<-Int.natCast_mul,wrap64]<;>omega
 have mk: ∀(n:Nat),aU [Value.int .u8 0] n=gp n (fun _=>0):=fun n=>by rw [lV];unfold gp;rw [List.map_const',Xs];rfl
 by_cases u:0<(K:Int)
 . have z:(268435456:Int).tdiv (K:Int)=((268435456/K:Nat):Int):=(by rw [XK (by decide)];rfl);have G:268435456/126<=268435456/K:=Nat.div_le_div_left i (by omega);have H:268435456/K<=268435456:=Nat.div_le_self _ _;have I:(268435456/126:Nat)=2130440:=rfl;have A:ag .i64 ((268435456:Int).tdiv (K:Int))=(268435456:Int).tdiv (K:Int):=(by rw [z,wrap64]<;>omega);have B: ¬((268435456:Int).tdiv (K:Int)<(a:Int)):=(by omega);have C:(K:Int)≠0:=(by omega);refine aa (n:=37) (rs:=[.tmp 4]) rfl Tryz.e83 rfl rfl rfl (lbt rfl) ?_;simp only [BZ,m,o,p,q,s,j,A,t,u,B,lI (n:=8) (by decide),lI (n:=(K:Int)) C,seval];refine ac (kC (by exact Tryz.t22.1) (by exact Tryz.e5E) (by omega) (by omega)) S ?_;clear S;intro h d S b;rw [Xl,mk]at S;simp only [BZ,Xl,seval];refine ac (bR (by intro x e;cases e)) S ?_;clear S;intro h c S g;simp only [ae]at S;simp only [BZ,ab,seval];have k:=S.apart;exact⟨S.gr,c,d,rfl,by have:=S.fr.n;omega,b,fun e=>(by subst e;simp [keys]at k),⟨S.row m0,S.row m1,fun _=>Nat.zero_lt_succ _⟩⟩
 . refine aa (n:=37) (rs:=[.tmp 4]) rfl Tryz.e83 rfl rfl rfl (lbt rfl) ?_;simp only [BZ,m,o,p,q,s,j,t,u,lI (n:=8) (by decide),seval];refine ac (kC (by exact Tryz.t22.1) (by exact Tryz.e5E) (by omega) (by omega)) S ?_;clear S;intro h d S b;rw [Xl,mk]at S;simp only [BZ,Xl,seval];refine ac (bR (by intro x e;cases e)) S ?_;clear S;intro h c S g;simp only [ae]at S;simp only [BZ,ab,seval];have k:=S.apart;exact⟨S.gr,c,d,rfl,by have:=S.fr.n;omega,b,fun e=>(by subst e;simp [keys]at k),⟨S.row m0,S.row m1,fun _=>Nat.zero_lt_succ _⟩⟩
theorem set1_ok{c:Hp}(s:c.t.Sized c.n){a e j n i:Nat}{B:Nat->Nat}(R:Row c a (gp n B) 1)(d:j<n)(f:B j<256)(t:i<8)(v:c.load e 0 1=some [.bool true])(g:e≠a):
 Ret zB 88 [.pointer (some ⟨a,j,none⟩),.int .u8 ((2 ^i:Nat):Int),ptrTo e] c fun r m=>Mo (· =a) c m/\r=.bool true/\Row m a (gp n (gK B j (setB (B j) i))) 1:=by
 have S:=St.init1 s (o:=.row (gp n B) 1) R;have p:=S.ld (b:=a) (o:=j) m0 (uL d);have q:=pow8 t;have w:(B j ^^^(B j&&& 2 ^i))<256:=X2 (n:=8) f (X3 Yc f);refine aa (n:=19) (rs:=[.tmp 5]) rfl Tryz.e88 rfl rfl rfl (lbt rfl) ?_;simp only [BZ,p,yK f q,seval];refine aw (aq S (i:=0) rfl Tryz.t5.2.2.1 ca (by rw [nG];exact d) ono) ?_;clear S p;rintro h ⟨S,x⟩;simp only [LC]at S;rw [vU]at S;have k:=S.ld (b:=a) (o:=j) m0 (uL d);have y:gK B j (B j ^^^(B j&&& 2 ^i)) j=(B j ^^^(B j&&& 2 ^i)):=by simp [gK]
 rw [y]at k;have l:=S.old v g;simp only [BZ,l,k,b_or8 w q,seval];refine aw (aq S (i:=0) rfl Tryz.t5.2.2.1 ca (by rw [nG];exact d) ono) ?_;clear S k;rintro h ⟨S,x⟩;simp only [LC]at S;rw [show(((B j ^^^(B j&&& 2 ^i))|||2 ^i:Nat):Int)=((setB (B j) i:Nat):Int)from rfl,vU]at S;have z:gK (gK B j (B j ^^^(B j&&& 2 ^i))) j (setB (B j) i)=gK B j (setB (B j) i):=by funext u;unfold gK;split<;>rfl
 rw [z]at S;simp only [BZ,ab,seval];exact⟨S.fr,S.row m0⟩
end Go.Ab
end
section
namespace Go.Ab
open Go.Proofs
set_option maxRecDepth 10000
section
variable{h0:Hp}{bp bb rows wide long:Nat}{B:Nat->Nat}
theorem xb{r i:Nat}(e:r<rows)(g:i<wide)(a:rows<=100)(b:wide<=1000)(c:long=(wide+7)/8):
 ag .i64 ((r:Int)*(long:Int))=((r*long:Nat):Int)/\ag .i64 ((i:Int).tdiv 8)=((i/8:Nat):Int)/\ag .i64 (((r*long:Nat):Int)+((i/8:Nat):Int))=((r*long+i/8:Nat):Int)/\(i:Int).tmod 8=((i%8:Nat):Int)/\r*long+i/8<rows*long/\i/8<long/\i%8<8:=by
 have f:long<=126:=by omega
 have h:r*long<=100*126:=Yg (by omega) f;have d:i/8<long:=by omega
 have j:r*long+long<=rows*long:=by rw [<-Nat.succ_mul];exact Ym _ e
 refine⟨by rw [<-Int.natCast_mul,wrap64]<;>omega,?_,by rw [wrap64]<;>omega,rfl,by omega,d,by omega⟩;rw [show(i:Int).tdiv 8=((i/8:Nat):Int)from rfl,wrap64]<;>omega
theorem bSet_ok(x:h0.t.Sized h0.n)(m:iz h0 bp bb rows wide long B)(l:bp≠bb){r i:Nat}(E:r<rows)(F:i<wide)(b:rows<=100)(d:wide<=1000)(e:long=(wide+7)/8):
 Ret zB 28 [ptrTo bp,.int .i64 (r:Nat),.int .i64 (i:Nat),.bool true] h0 fun v p=>Mo (· =bb) h0 p/\v=.bool true/\iz p bp bb rows wide long (gK B (r*long+i/8) (setB (B (r*long+i/8)) (i%8))):=by
 obtain⟨G,H,I,J,y,n6,t⟩:=xb E F b d e;have K: ∀{h:Hp} {s:Nat},Gr h0 h->h.load s 0 1=some [.bool true]->s≠bb->Ret zB 87 [ptrTo bp,.int .i64 (r:Nat),.int .i64 (i:Nat),.func (.func 88) #[] #[ptrTo s]] h fun v p=>Mo (· =bb) h p/\v=.bool true/\Row p bb (gp (rows*long) (gK B (r*long+i/8) (setB (B (r*long+i/8)) (i%8)))) 1:=by
  intro h s g L N;have S:=Si g.ok;have k:=m.gr g;have O: ¬(r:Int)<0:=by omega
  have P: ¬(rows:Int)<=(r:Int):=by omega
  have Q: ¬(i:Int)<0:=by omega
  have T: ¬(wide:Int)<=(i:Int):=by omega
  have U:=k.r.load1 (o:=2) rfl;have V:=k.r.load1 (o:=3) rfl;have W:=k.r.lt g.ok;refine aa (n:=46) (rs:=[.tmp 8]) rfl Tryz.e87 rfl rfl rfl (lbt rfl) ?_;simp only [BZ,O,seval];refine ah (lu S.ok k.bits) ?_;intro h1 u;replace S:=S.call u;simp only [BZ,P,Q,seval];refine ah (ou S.ok (k.gr u).bits) ?_;intro X z;replace S:=S.call z;have a:=u.trans z;have Y:=a.load U;have Z:=a.load V;simp only [BZ,T,seval];refine av (ax rfl) (q:=0) (ps:=[]) (by kernel_rfl) ?_;simp only [BZ,cls,Y,Z,G,H,I,J,y,lI (n:=8) (by decide),gJ (n:=8) (by decide),b_shl8 t,seval];refine cg (set1_ok S.ok (k.b.gr a) y (k.lt _) t (a.load L) N) ?_;rintro v h3 ⟨A,rfl,R3⟩;have vv:leaves X h3 bp=true:=gy (A.get bp (XZ W a.n) l);simp only [BZ,cls,ab,seval];exact⟨(a.fr (M:=(· =bb))).trans A (fun c w=>.inl w),R3⟩
 have S:=Si x;have zb:=m.b.lt x;refine aa (n:=14) (rs:=[.tmp 8]) rfl Tryz.e28 rfl rfl rfl (lbt rfl) ?_;simp only [BZ,seval];refine ac (di (by exact qh)) S ?_;clear S;intro h s S C;simp only [BZ,seval];have k7:=S.fr.n;refine step_ret (K S.gr (S.ld m0 rfl) (by omega)) ?_;rintro v h ⟨f,rfl,R⟩;simp only [BZ,ab,seval];have D:Mo (· =bb) h0 h:=(S.gr.fr (M:=(· =bb))).trans f (fun c w=>.inl w);refine⟨D,D.has (o:=.row _ 1) m.r l,R,fun j=>?_⟩;unfold gK
 split
 . exact setB_lt (m.lt _) t
 . exact m.lt _
end
theorem lO{n:Nat}{f:Nat->Bool}:(zO (n+1)).filter f=(zO n).filter f++if f n=true then [n]else []:=by
 rw [List.range_succ,List.filter_append];congr 1;by_cases h:f n=true
 . simp [h]
 . simp [h]
theorem xa{f:Nat->Bool}{i:Nat}(h:f i=true): ∀n,i<n->((zO n).filter f)[((zO i).filter f).length]? =some i:=by
 intro n
 induction n with
 |zero=>intro a;omega| succ n b=>
   intro a;rw [lO];by_cases c:i<n
   . have:=b c;rw [List.getElem?_append_left (List.getElem?_eq_some_iff.1 this).1];exact this
   . have:i=n:=(by omega);subst this;rw [XL (Xh _),if_pos h];simp
theorem xW{n:Nat}{f:Nat->Bool}:((zO n).filter f).length<=n:=by have:=List.length_filter_le f (zO n);rwa [Xs]at this
end Go.Ab

end
section
namespace Go.Ab
open Go.Proofs
set_option maxRecDepth 10000
theorem rep64_ok{a:Hp}(y:a.t.Sized a.n){v:Value}{x:Int}{N:Nat}(z:ay a 1 (encI .i64) v [x])(d:1<=N)(A:N<1000):Ret zB 189 [v,.int .i64 N] a fun r t=>Gr a t/\ ∃b,r=.slice (some ⟨b,0,none⟩) N N/\a.n<=b/\Row t b (zM N (.int .i64 x)) 1:=by
 have S:=Si y;have B: ¬((N:Int)<0):=by omega
 have C: ¬((9223372036854775807:Int)<(N:Int)):=by omega
 have D:ag .u64 (N:Int)=(N:Int):=xV (by omega) (by omega);have E:ag .u64 1=1:=rfl;have F:ag .i64 (N:Int)=(N:Int):=by rw [wrap64]<;>omega
 obtain⟨L,M,O,P,rfl,G,H⟩: ∃b o s c,v=.slice (some ⟨b,o,s⟩) 1 c/\1<=c/\a.load b o 1=some [.int .i64 x]:=by
  rcases z with⟨_,h⟩|⟨b,o,s,c,rfl,I,J⟩
  . cases h
  . exact⟨b,o,s,c,rfl,I,J⟩
 refine aa (n:=48) (rs:=[.tmp 4]) rfl Tryz.e189 rfl rfl rfl (lbt rfl) ?_;simp only [BZ,bV,aA,cj,Xb,B,D,E,seval];refine ah (mul_ok S.ok A) ?_;intro h g;replace S:=S.call g;clear g;simp only [BZ,bV,aA,cj,C,F,seval];refine ac (kC (by exact Tryz.t23.1) (by exact Tryz.e2E) (by omega) (by omega)) S ?_;clear S;intro h m S f;rw [Xl,lV]at S;simp only [BZ,Xl,seval];refine dX (S.copyO (i:=0) (l:=zM 1 (.int .i64 x)) rfl Tryz.t23.1 Tryz.t2.2.2.1 (by rw [jn d];decide) (by rw [jn d];exact S.old H (fun h=>h)) (by simp;omega) rfl) ?_;clear S;rintro h w ⟨rfl,S⟩;simp only [LC]at S;rw [show zM N (Value.int .i64 0)=zM 0 (.int .i64 x)++zM N (.int .i64 0) by simp,ut d]at S;rw [jn d];simp only [BZ,Xb,seval];refine az (fun(n:Nat) p h=>1<=n/\n<=N/\St NoM a h [(m,.row (zM n (.int .i64 x)++zM (N-n) (.int .i64 0)) 1)] []/\p 7=.slice (some ⟨m,0,none⟩) N N/\p 8=.int .i64 n) (fun n=>N-n) ?_ 1 _ _ ?_
 . clear S;intro n K p h ⟨hn1,hn,S,r7,r8⟩;by_cases hlt:n<N
   . simp only [BZ,r7,r8,an,hlt,seval];refine av (ax rfl) (q:=0) (ps:=[]) (by kernel_rfl) ?_;simp only [BZ,cls,XT,Ya,r7,r8,Av Tryz.t23.1 Tryz.t2.2.2.1 hlt,yJ Tryz.t23.1 Tryz.t2.2.2.1 (X8 hlt),seval];have u:0<dk n (N-n):=by
      rcases X9 n (N-n)with h|h
      . rw [jn h];omega
      . rw [uv h];omega
     have j:dk n (N-n)<=N-n/\dk n (N-n)<=n:=by
      rcases X9 n (N-n)with h|h
      . rw [jn h];omega
      . rw [uv h];omega
     refine jG (S.copyO (i:=0) (l:=zM (dk n (N-n)) (.int .i64 x)) rfl Tryz.t23.1 Tryz.t2.2.2.1 u ?_ (by simp;omega) (by simp;right;rfl)) ?_
     . rw [(S.row m0).load (by simp;omega),Xn,Xx];congr 1;rw [XU (by simp;omega),Yo];congr 1;omega
     clear S;rintro h w ⟨rfl,S⟩;simp only [LC]at S;rw [ut j.1]at S;generalize dk n (N-n)=k at S u j;have w:ag .i64 ((n:Int)+(k:Int))=((n+k:Nat):Int):=(by rw [wrap64]<;>omega);simp only [BZ,cls,w,seval];exact K (n+k) _ _ (by omega) ⟨by omega,by omega,by rw [show N-(n+k)=N-n-k by omega];exact S,by simp [am,r7]⟩
   . simp only [BZ,ab,r7,r8,an,hlt,seval];have e:n=N:=(by omega);subst e;have R:=S.row (b:=m) m0;rw [Yt,Yp,XO]at R;exact⟨S.gr,m,rfl,f,R⟩
 . exact⟨Xh _,d,by simpa using S,by simp [am]⟩
theorem repI_ok{a:Hp}(y:a.t.Sized a.n){v:Value}{x:Int}{N:Nat}(z:ay a 1 (encI .i64) v [x])(d:1<=N)(A:N<1000):Ret zB 190 [v,.int .i64 N] a fun r t=>Gr a t/\ ∃b,r=.slice (some ⟨b,0,none⟩) N N/\a.n<=b/\Row t b (zM N (.int .i64 x)) 1:=by
 have S:=Si y;have B: ¬((N:Int)<0):=by omega
 have C: ¬((9223372036854775807:Int)<(N:Int)):=by omega
 have D:ag .u64 (N:Int)=(N:Int):=xV (by omega) (by omega);have E:ag .u64 1=1:=rfl;have F:ag .i64 (N:Int)=(N:Int):=by rw [wrap64]<;>omega
 obtain⟨L,M,O,P,rfl,G,H⟩: ∃b o s c,v=.slice (some ⟨b,o,s⟩) 1 c/\1<=c/\a.load b o 1=some [.int .i64 x]:=by
  rcases z with⟨_,h⟩|⟨b,o,s,c,rfl,I,J⟩
  . cases h
  . exact⟨b,o,s,c,rfl,I,J⟩
 refine aa (n:=48) (rs:=[.tmp 4]) rfl Tryz.e190 rfl rfl rfl (lbt rfl) ?_;simp only [BZ,bV,aA,cj,Xb,B,D,E,seval];refine ah (mul_ok S.ok A) ?_;intro h g;replace S:=S.call g;clear g;simp only [BZ,bV,aA,cj,C,F,seval];refine ac (kC (by exact Tryz.t38.1) (by exact XW) (by omega) (by omega)) S ?_;clear S;intro h m S f;rw [Xl,lV]at S;simp only [BZ,Xl,seval];refine dX (S.copyO (i:=0) (l:=zM 1 (.int .i64 x)) rfl Tryz.t38.1 Tryz.t3.2.2.1 (by rw [jn d];decide) (by rw [jn d];exact S.old H (fun h=>h)) (by simp;omega) rfl) ?_;clear S;rintro h w ⟨rfl,S⟩;simp only [LC]at S;rw [show zM N (Value.int .i64 0)=zM 0 (.int .i64 x)++zM N (.int .i64 0) by simp,ut d]at S;rw [jn d];simp only [BZ,Xb,seval];refine az (fun(n:Nat) p h=>1<=n/\n<=N/\St NoM a h [(m,.row (zM n (.int .i64 x)++zM (N-n) (.int .i64 0)) 1)] []/\p 7=.slice (some ⟨m,0,none⟩) N N/\p 8=.int .i64 n) (fun n=>N-n) ?_ 1 _ _ ?_
 . clear S;intro n K p h ⟨hn1,hn,S,r7,r8⟩;by_cases hlt:n<N
   . simp only [BZ,r7,r8,an,hlt,seval];refine av (ax rfl) (q:=0) (ps:=[]) (by kernel_rfl) ?_;simp only [BZ,cls,XT,Ya,r7,r8,Av Tryz.t38.1 Tryz.t3.2.2.1 hlt,yJ Tryz.t38.1 Tryz.t3.2.2.1 (X8 hlt),seval];have u:0<dk n (N-n):=by
      rcases X9 n (N-n)with h|h
      . rw [jn h];omega
      . rw [uv h];omega
     have j:dk n (N-n)<=N-n/\dk n (N-n)<=n:=by
      rcases X9 n (N-n)with h|h
      . rw [jn h];omega
      . rw [uv h];omega
     refine jG (S.copyO (i:=0) (l:=zM (dk n (N-n)) (.int .i64 x)) rfl Tryz.t38.1 Tryz.t3.2.2.1 u ?_ (by simp;omega) (by simp;right;rfl)) ?_
     . rw [(S.row m0).load (by simp;omega),Xn,Xx];congr 1;rw [XU (by simp;omega),Yo];congr 1;omega
     clear S;rintro h w ⟨rfl,S⟩;simp only [LC]at S;rw [ut j.1]at S;generalize dk n (N-n)=k at S u j;have w:ag .i64 ((n:Int)+(k:Int))=((n+k:Nat):Int):=(by rw [wrap64]<;>omega);simp only [BZ,cls,w,seval];exact K (n+k) _ _ (by omega) ⟨by omega,by omega,by rw [show N-(n+k)=N-n-k by omega];exact S,by simp [am,r7]⟩
   . simp only [BZ,ab,r7,r8,an,hlt,seval];have e:n=N:=(by omega);subst e;have R:=S.row (b:=m) m0;rw [Yt,Yp,XO]at R;exact⟨S.gr,m,rfl,f,R⟩
 . exact⟨Xh _,d,by simpa using S,by simp [am]⟩
def pT(A:List Arc)(f:Arc->Nat)(a:List Nat):List (List Value):=a.map fun(id:Nat)=>[.int .i64 id,.agg ⟨cE ⟨0,f (A.getD id default),(A.getD id default).w⟩⟩]
theorem arcs_ok'{a:Hp}(l:a.t.Sized a.n){p j k:Value}(m:Fl p)(o:Fl j)(q:Fl k):Ret zB 193 [p,j,k] a fun v i=>Gr a i/\ ∃b c d,v=.func (.func 223) #[] #[ptrTo b,ptrTo c,ptrTo d]/\a.n<=b/\a.n<=c/\a.n<=d/\i.load b 0 1=some [j]/\i.load c 0 1=some [p]/\i.load d 0 1=some [k]:=by have S:=Si l;refine aa (n:=8) (rs:=[.tmp 6]) rfl Tryz.e193 rfl rfl rfl (lbt rfl) ?_;simp only [BZ,seval];refine ac (di (by assumption)) S ?_;clear S;intro h c S e;simp only [BZ,if_false,seval];refine ac (di (by assumption)) S ?_;clear S;intro h b S f;simp only [BZ,if_false,seval];refine ac (di (by assumption)) S ?_;clear S;intro h d S g;simp only [BZ,ab,seval];exact⟨S.gr,b,c,d,rfl,f,e,g,S.ld m1 rfl,S.ld m2 rfl,S.ld m0 rfl⟩
theorem arcs_it{hq k:Hp}(I:hq.t.Sized hq.n)(m:k.t.Sized k.n)(T:fC hq k)(U:hq.n<=k.n){p u:Value}{l:Gra}{M y z A:Nat}(V:bW hq M p l){d:List Nat}(N:ay k 1 eS u d)(B: ∀id∈d,id<l.arcs.length)(O:d.length<1000){g:FuncId}{f:Arc->Nat}(W:KeyF zB g f)
 (X:k.load y 0 1=some [u]) (e2:k.load z 0 1=some [p]) (e3:k.load A 0 1=some [.func (.func g) #[] #[]]):
 sS zB 223 [] [ptrTo y,ptrTo z,ptrTo A] k (fun c=>c=y\/c=z\/c=A\/ar u c\/c<hq.n) (pT l.arcs f d):=by
 intro lb J Z hz Y h F s G;refine enter (n:=32) (rs:=[]) rfl Tryz.e223 rfl rfl rfl (lbt rfl) ?_;have P:=s.load m X (.inl rfl);simp only [BZ,P,N.lenq,seval];refine az (fun(i:Nat) r h=>i<=d.length/\ ∃F,ItS k (fun c=>c=y\/c=z\/c=A\/ar u c\/c<hq.n) h F/\J i h F/\r 0=.func (.yield lb) #[] #[]/\r 1=ptrTo y/\r 2=ptrTo z/\r 3=ptrTo A/\r 9=u/\r 10=.int .i64 d.length/\r 11=.int .i64 i) (fun i=>d.length-i) ?_ 0 _ _ ?_
 . clear P;intro i ih r h ⟨hi,F,s,G,r0,r1,r2,r3,r9,r10,r11⟩;by_cases hlt:i<d.length
   . obtain⟨c,o,C,K⟩:=(s.sl m N (fun b h=>.inr (.inr (.inr (.inl h))))).ix (kd:=.i64) iC hlt;have l2:=s.load m e2 (.inr (.inl rfl));have l3:=s.load m e3 (.inr (.inr (.inl rfl)));have D:=B _ (XA hlt);have nt:bW h M p l:=V.keep I (s.keep T U (fun c hc=>.inr (.inr (.inr (.inr hc)))));have w:ag .i64 ((i:Int)+1)=((i+1:Nat):Int):=(by rw [wrap64]<;>omega);have S:=Si s.ok;simp only [BZ,r2,r9,r10,r11,an,hlt,C,K,eS,l2,seval];refine step_ret (q7 S.ok nt D) ?_;rintro v h2 ⟨t,rfl⟩;replace S:=S.call t;clear t;simp only [BZ,seval];refine ac au S ?_;clear S;intro h L S Q;simp only [BZ,cE,seval];refine aw (S.store (i:=0) rfl ?_ ?_ rfl rfl ?_ ono) ?_
     . exact(by exact Tryz.t90.2.1)
     . exact(by intro x e;cases e)
     . exact lbt rfl
     clear S;rintro h ⟨S,mo⟩;clear mo;simp only [LC,ae,lay,Xi,Xj,seval]at S;simp only [BZ,seval];refine av (ax rfl) (q:=0) (ps:=[(4,6)]) (by kernel_rfl) ?_;simp only [BZ,cls,r0,r3,S.old l3 (fun h=>h),S.lds (b:=L) (o:=0) (n:=3) m0 (lbt rfl),seval];have E:=(S.row (b:=L) m0).lt S.ok;refine fh (W _ l.arcs[d[i]] S.ok) ?_;intro R t;have H:=aP t E;replace S:=S.call t;clear t;simp only [BZ,cls,S.ld (b:=L) (o:=2) m0 rfl,seval];have gd:l.arcs.getD d[i] default=l.arcs[d[i]]:=(by simp [Xg,D]);have hx:(pT l.arcs f d)[i]? =some [.int .i64 (d[i]:Nat),.agg ⟨[.int .i64 0,.int .i64 (f l.arcs[d[i]]:Nat),.int .i64 (l.arcs[d[i]].w:Nat)]⟩]:=(by unfold pT;rw [XQ,Xr hlt];simp only [XT,gd];rfl);refine dn_yield hz Y (s.gr S.gr) (Y.gr _ _ _ _ G S.gr) (j:=i) hx ?_ ?_
     . intro R F' a s' _ _;simp only [BZ,cls,r11,w,seval];refine⟨by simp only [aY,bj,aR,bo,aW,ne_eq,not_false_eq_true,bz,bK,aX,aV,bZ,cw,aS,XB,r0,r1,r2,r3,al,aT H,aE H,seval],?_⟩;exact ih (i+1) _ _ (by omega) ⟨by omega,F',s',a,by simp [am,r0,r1,al,r2,r3,r9,r10]⟩
     . intro R a _;simp only [BZ,cls,seval];refine⟨by simp only [aY,bj,aR,bo,aW,ne_eq,not_false_eq_true,bz,bK,aX,aV,bZ,cw,aS,XB,r0,r1,r2,r3,al,aT H,aE H,seval],?_⟩;exact iL rfl ⟨rfl,.inr (.inl ⟨_,rfl,a⟩)⟩
   . simp only [BZ,r10,r11,an,hlt,seval];have:i=d.length:=(by omega);subst this;exact dl (cP ⟨rfl,_,rfl,rfl,.inl ⟨_,F,rfl,by simpa [pT]using G⟩⟩)
 . exact⟨by omega,F,s,G,by simp [am,dy,al]⟩
theorem ints_set(l:List Int)(i:Nat)(x:Int):(ints l).set i (.int .i64 x)=ints (l.set i x):=by
 have a: ∀l:List Int,ints l=l.map fun x=>Value.int .i64 x:=fun l=>by unfold ints;rw [Xf,XM,Xf];rfl
 rw [a,a,List.map_set]
theorem reach_ok{j:Hp}(ok:j.t.Sized j.n){E d J c N v arc far:Nat}{p W vO:Value}{F:List Nat}{K:Nat->Option Int}{O:List Nat}{X:List (Value×Value×Nat)}{f:Int->Option Value}{l:List Int}
 (R:Row j E [p,W,.slice (some ⟨d,0,none⟩) N N,vO,.map (some J)] 1) (H:dZ j F p N K) (hN:N<=1000) (a:j.get J=some (.map X c)) (MI:dT X c f) (CF:ClF O f) (u:Row j d (ints l) 1) (G:l.length=N) (L:v<N)
 (U:d∉F) (d2:E∉F) (d3:E≠d):
 Ret zB 194 [ptrTo E,.int .i64 v,.int .i64 arc,.int .i64 far] j fun _ Y=>Mo (fun c=>c∈F\/c=d) j Y/\ ∃F' q,dZ Y F' p N (jr O K v far)/\(∀b∈F',b∈F\/j.n<=b)/\Row Y d (ints q) 1/\q.length=N/\((jr O K v far=K/\q=l)\/(v∉O/\jr O K v far=eV K v (some (far:Int))/\q=l.set v arc)):=by
 have S:=Si ok;have ad:=u.lt ok;have M:=R.load1 (o:=0) rfl;have I:=R.load1 (o:=4) rfl;have l2:=R.load1 (o:=2) rfl;have pp: ∃b,p=ptrTo b:=by obtain⟨b,_,_,e,_⟩:=H.ex;exact⟨b,e⟩
 obtain⟨bp,rfl⟩:=pp;refine aa (n:=59) (rs:=[]) rfl Tryz.e194 rfl rfl rfl (lbt rfl) ?_;simp only [BZ,M,seval];refine ah (De S.ok H) ?_;intro h g;replace S:=S.call g;clear g;replace a:h.get J=some (.map X c):=S.gr.at a;have V:=H.gr S.gr;have A:=uK (x:=(v:Int)) Tryz.t213.1 Tryz.t3.1 (z:=.int .i64 0) (by kernel_rfl) a MI;rw [CF v]at A;replace M:=S.old M (fun h=>h);replace I:=S.old I (fun h=>h);replace l2:=S.old l2 (fun h=>h);replace u:Row h d (ints l) 1:=u.gr S.gr;have R1:=R.gr S.gr;have w:=S.gr;by_cases s:v∈O
 . rw [if_pos s,XH]at A;simp only [BZ,I,A,seval];exact⟨w.fr,F,l,by unfold jr;rw [if_pos s];exact V,fun b m=>.inl m,u,G,.inl ⟨by unfold jr;rw [if_pos s],rfl⟩⟩
 . rw [if_neg s,Xz]at A;have af:=u.lt w.ok;cases P:K v with
   | none=>
     have y:jr O K v far=eV K v (some (far:Int)):=(by unfold jr;rw [if_neg s,P]);simp only [BZ,M,I,A,Xz,Xk,seval];refine step_ret (uU w.ok V L hN P) ?_;rintro r B ⟨t,F',Z,Q⟩;have C:Row B d (ints l) 1:=t.has (o:=.row _ 1) u U;have r2:Row B E [ptrTo bp,W,.slice (some ⟨d,0,none⟩) N N,vO,.map (some J)] 1:=t.has (o:=.row _ 1) R1 d2;have D:=r2.load1 (o:=2) rfl;have S:=St.init1 t.ok (o:=.row _ 1) C;simp only [BZ,D,L,seval];refine aw (aq S (i:=0) rfl Tryz.t3.2.2.1 ca (by rw [bQ,G];exact L) ono) ?_;clear S;rintro h3 ⟨S,T⟩;simp only [LC]at S;rw [ints_set]at S;simp only [BZ];refine⟨(w.fr.trans (t.mono (fun c a=>.inl a)) (fun c a=>.inl a):Mo (fun c=>c∈F\/c=d) j B).trans T (fun c a=>.inl (.inr a)),F',l.set v arc,by rw [y];exact Z.mo T (fun b m e=>by subst e;rcases Q b m with h|h;exact U h;omega),fun b m=>(Q b m).imp (fun h=>h) (fun h=>Xa w.n h),S.row m0,by rw [Xw];exact G,.inr ⟨s,y,rfl⟩⟩
   | some k=>
     by_cases hle:k<=(far:Int)
     . have y:jr O K v far=K:=(by unfold jr;rw [if_neg s,P];simp only [];rw [if_pos hle]);simp only [BZ,I,A,hle,XH,seval];exact⟨w.fr,F,l,by rw [y];exact V,fun b m=>.inl m,u,G,.inl ⟨y,rfl⟩⟩
     . have y:jr O K v far=eV K v (some (far:Int)):=(by unfold jr;rw [if_neg s,P];simp only [];rw [if_neg hle]);simp only [BZ,M,I,A,hle,XH,seval];refine step_ret (A8 w.ok V hN P (by omega)) ?_;rintro r B ⟨t,Z⟩;have C:Row B d (ints l) 1:=t.has (o:=.row _ 1) u U;have r2:Row B E [ptrTo bp,W,.slice (some ⟨d,0,none⟩) N N,vO,.map (some J)] 1:=t.has (o:=.row _ 1) R1 d2;have D:=r2.load1 (o:=2) rfl;have S:=St.init1 t.ok (o:=.row _ 1) C;simp only [BZ,D,L,seval];refine aw (aq S (i:=0) rfl Tryz.t3.2.2.1 ca (by rw [bQ,G];exact L) ono) ?_;clear S;rintro h3 ⟨S,T⟩;simp only [LC]at S;rw [ints_set]at S;simp only [BZ];refine⟨(w.fr.trans (t.mono (fun c a=>.inl a)) (fun c a=>.inl a):Mo (fun c=>c∈F\/c=d) j B).trans T (fun c a=>.inl (.inr a)),F,l.set v arc,by rw [y];exact Z.mo T (fun b m e=>by subst e;exact U m),fun b m=>.inl m,S.row m0,by rw [Xw];exact G,.inr ⟨s,y,rfl⟩⟩
def seen(A:List Arc)(fs ft:Arc->Nat):List Arc:=A.map fun a=>⟨fs a,ft a,a.w⟩
def NextF(E:Env)(g:FuncId)(a:Gra)(b:Value)(fs:Arc->Nat):Prop:= ∀(h:Hp) (e:Nat),h.t.Sized h.n->bW h e b a-> ∀v,v<a.nodes->Ret E g [b,.int .i64 (v:Nat)] h fun r d=>Gr h d/\ay d 1 eS r (outs a.arcs fs a.arcs.length v)/\ ∀c,ar r c->h.n<=c
def eJ(l:List Nat):List Value:=l.flatMap eS
theorem lK(l:List Nat):eJ l=l.map fun(x:Nat)=>Value.int .i64 x:=by unfold eJ;rw [Xf,XM,Xf];rfl
theorem ints_map(l:List Int):ints l=l.map fun x=>Value.int .i64 x:=by unfold ints;rw [Xf,XM,Xf];rfl
theorem qA(l:List Nat):(eJ l).length=l.length:=by rw [lK,XN]
theorem nats_app(l:List Nat)(x:Nat):eJ (l++[x])=eJ l++eJ [x]:=by rw [lK,lK,lK,List.map_append]
theorem seen_at{A:List Arc}{fs ft:Arc->Nat}{i:Nat}(a:i<A.length):(seen A fs ft).getD i default=⟨fs (A.getD i default),ft (A.getD i default),(A.getD i default).w⟩/\(seen A fs ft).getD i default∈seen A fs ft:=by
 have e:(seen A fs ft).getD i default=⟨fs (A.getD i default),ft (A.getD i default),(A.getD i default).w⟩:=by unfold seen;simp [Xg,a]
 refine⟨e,?_⟩;rw [Xg,Xr (by unfold seen;simpa using a)];exact XA _
theorem seen_mem{A:List Arc}{fs ft:Arc->Nat}{a:Arc}(c:a∈seen A fs ft): ∃i,i<A.length/\(seen A fs ft).getD i default=a:=by obtain⟨i,b,e⟩:=List.mem_iff_getElem.1 c;exact⟨i,by unfold seen at b;simpa using b,by simp [Xg,b,e]⟩
def xe(a:Hp)(m:Nat)(r:Value)(B:List Arc)(s N:Nat):Prop:= ∃b d e D f O,r=.agg ⟨[b,d,e]⟩/\ay a 1 eS b ((zO N).map D)/\ay a 1 (encI .i64) d f/\ay a 1 eS e O/\f.length=N/\(∀v,IsD B s v (D v))/\(∀c,ar b c\/ar d c\/ar e c->m<=c)/\O.Nodup/\ ∀v∈O,v<N
theorem uW{a:Hp}(e:a.t.Sized a.n){F:List Nat}{p:Value}{N:Nat}{K:Nat->Option Int}(H:dZ a F p N K)(f:N<=1000):Ret zB 192 [p] a fun r c=> ∃(v:Nat) (k:Int) (b:Bool),r=.tuple #[.int .i64 (v:Nat),.int .i64 k,.bool b]/\Mo (· ∈F) a c/\dZ c F p N (if b=true then eV K v none else K)/\(b=true->K v=some k/\ ∀u k',K u=some k'->k<=k')/\(b=false-> ∀v,K v=none):=by
 refine iZ (C5 e H f) ?_;rintro r c (⟨rfl,d,g⟩|⟨v,k,rfl,d,i,j,l⟩)
 . exact⟨0,0,false,rfl,g.fr,H.gr g,fun h=>(by cases h),fun _=>d⟩
 . exact⟨v,k,true,rfl,j,l,fun _=>⟨d,fun u k' h=>by have:=i u k' h;omega⟩,fun h=>(by cases h)⟩
def FloodI(t:Hp)(B:List Arc)(s N m g i j k n o w:Nat)(z A:FuncId)(O:List Nat)(ρ:Nat->Value)(d:List Deferred)(h:Hp):Prop:=
 ∃ (e:List Nat) (D:Nat->Nat) (K:Nat->Option Int) (F:List Nat) (p:List (Value×Value×Nat)) (c:Nat) (f:Int->Option Value) (q:List Int) (l:Value) (r:Nat) (v:Nat) (a:Int) (b:Bool),d=e.map qS/\
   St NoM t h ([(r,Ob.row [.int .i64 a] 1),(m,.row [ptrTo g] 1),(g,.row [ptrTo o,.slice (some ⟨k,0,none⟩) N N,.slice (some ⟨j,0,none⟩) N N,l,.map (some i)] 1),(i,.map p c),(j,.row (ints q) 1),(k,.row (eJ ((zO N).map D)) 1),(n,.row [.slice none 0 0,.slice none 0 0,.slice none 0 0] 1)]++dq e) [(l,1,eJ O)]/\
   (∀x∈F,t.n<=x/\x∉keys ([(r,Ob.row [.int .i64 a] 1),(m,.row [ptrTo g] 1),(g,.row [ptrTo o,.slice (some ⟨k,0,none⟩) N N,.slice (some ⟨j,0,none⟩) N N,l,.map (some i)] 1),(i,.map p c),(j,.row (ints q) 1),(k,.row (eJ ((zO N).map D)) 1),(n,.row [.slice none 0 0,.slice none 0 0,.slice none 0 0] 1)]++dq e) [(l,1,eJ O)])/\
   q.length=N/\dT p c f/\ClF O f/\Dj B s N O D K (fun _=>False)/\dZ h F (ptrTo o) N (if b=true then eV K v none else K)/\(b=true->K v=some a/\ ∀u y,K u=some y->a<=y)/\(b=false-> ∀v,K v=none)/\
   ρ 0=ptrTo w/\ρ 2=.func (.func z) #[ptrTo w] #[]/\ρ 3=.func (.func A) #[] #[]/\ρ 8=ptrTo n/\ρ 9=ptrTo m/\ρ 10=.int .i64 v/\ρ 11=ptrTo r/\ρ 12=.bool b
theorem AJ {h0:Hp} (ok:h0.t.Sized h0.n) {l:Gra} (a0:Good l) {pn:Value} {nb:Nat} (hn:bW h0 nb pn l) {s:Nat} (hs:s<l.nodes) {gN gE:FuncId} {fs ft:Arc->Nat} (hN:NextF zB gN l pn fs) (hE:KeyF zB gE ft) (bm: ∀a∈l.arcs,ft a<l.nodes):
 Ret zB 138 [pn,.int .i64 s,.func (.func gN) #[pn] #[],.func (.func gE) #[] #[]] h0 fun r h'=>Gr h0 h'/\xe h' h0.n r (seen l.arcs fs ft) s l.nodes:=by
 have n1:=a0.n1;have n2:=a0.n2;have S:=Si ok;have c1: ¬((s:Int)<0):=by omega
 have c2: ¬((l.nodes:Int)<=(s:Int)):=by omega
 obtain⟨bp,b6⟩: ∃b,pn=ptrTo b:=by obtain⟨b,_,_,_,_,_,e,_⟩:=hn.ex;exact⟨b,e⟩
 subst b6;refine aa (n:=117) (rs:=[.cell 8 218]) rfl Tryz.e138 rfl rfl rfl (lbt rfl) ?_;simp only [BZ];refine ac au S ?_;clear S;intro h W S cs;simp only [BZ,c1,seval];refine ah (cM S.ok (hn.gr S.gr)) ?_;intro h g;replace S:=S.call g;clear g;simp only [BZ,c2,seval];refine ah (cM S.ok (hn.gr S.gr)) ?_;intro h g;replace S:=S.call g;clear g;simp only [BZ,seval];have nF:=S.fr.n;have kF:=fun {c} (t:c∈_)=>S.key_lt (b:=c) t;refine step_ret (CV S.ok) ?_;intro v h ⟨g,Fh,H,hFn⟩;replace S:=S.call g;clear g;rename Value=>p;have dF: ∀c∈Fh,c∉keys [(W,Ob.row [.slice none 0 0,.slice none 0 0,.slice none 0 0] 1)] []:=fun c t w=>by have:=kF w;have:=hFn c t;omega
 have lF:=H.lt S.ok;have Y:=S;have gF: ∀c∈Fh,h0.n<=c\/NoM c:=fun c t=>.inl (Xa nF (hFn c t));replace S:=S.base;simp only [BZ];refine ac (bg (by exact Tryz.t23.1) (by exact Tryz.e2E) (by decide) (by rfl)) S ?_;clear S;intro h bn S a7;simp only [LC,aU,bD,ae,Xq,Xm,Xn,XE,seval]at S;simp only [BZ,seval];refine ah (cM S.ok (hn.gr (Y.rebase S).gr)) ?_;intro h g;replace S:=S.call g;clear g;simp only [BZ,seval];have kl:=fun {c} (t:c∈_)=>S.key_lt (b:=c) t;have kn:=S.fr.n;refine step_ret (rep64_ok S.ok (x:=72057594037927936) (.inr ⟨bn,0,none,1,rfl,Xh _,S.lds (b:=bn) (o:=0) (n:=1*1) m0 (lbt rfl)⟩) n1 (by omega)) ?_;intro v h ⟨g,bd,ed,nd,Rd⟩;replace S:=S.call g;clear g;subst ed;replace S:=S.drop1;replace S:=S.push (b:=bd) (o:=.row _ 1) (.inl (Xa kn nd)) Rd (fun w=>by have:=kl (XI _ w);omega);simp only [BZ];refine ac (bg (by exact Tryz.t38.1) (by exact XW) (by decide) (by rfl)) S ?_;clear S;intro h bq S a8;simp only [LC,aU,bD,ae,Xq,Xm,Xn,XE,seval]at S;simp only [BZ,seval];refine ah (cM S.ok (hn.gr (Y.rebase S).gr)) ?_;intro h g;replace S:=S.call g;clear g;simp only [BZ,seval];have bt:=fun {c} (t:c∈_)=>S.key_lt (b:=c) t;have a1:=S.fr.n;refine step_ret (repI_ok S.ok (x:= -1) (.inr ⟨bq,0,none,1,rfl,Xh _,S.lds (b:=bq) (o:=0) (n:=1*1) m0 (lbt rfl)⟩) n1 (by omega)) ?_;intro v h ⟨g,ba,ea,na,Ra⟩;replace S:=S.call g;clear g;subst ea;replace S:=S.drop1;replace S:=S.push (b:=ba) (o:=.row _ 1) (.inl (Xa a1 na)) Ra (fun w=>by have:=bt (XI _ w);omega);have pp: ∃b,p=ptrTo b:=by obtain⟨b,_,_,e,_⟩:=H.ex;exact⟨b,e⟩
 obtain⟨bP,rfl⟩:=pp;simp only [BZ,seval];refine ac uC S ?_;clear S;intro h G S cv;simp only [BZ,seval];refine ac (bR (by intro x e;cases e)) S ?_;clear S;intro h C S cx;simp only [ae]at S;simp only [BZ];refine ac au S ?_;clear S;intro h I S cz;simp only [BZ,seval];refine aw (aq S (i:=0) rfl ?_ ?_ ?_ ono) ?_
 . exact(by simp only [XG])
 . exact(by exact cS)
 . exact Xc (lbt rfl)
 clear S;rintro h ⟨S,mo⟩;clear mo;simp only [LC,ae,lay,Xi,Xj,seval]at S;simp only [BZ,S.ld (b:=I) (o:=0) m0 rfl,S.ld (b:=C) (o:=0) m1 rfl,seval];have d8: ∀c∈Fh,c≠W:=fun c t e=>dF c t (by rw [e];simp [keys]);have cY:=Xa kn nd;have c0:=Xa a1 na;clear kl bt kF kn nd a1 na Ra Rd;have HA:=H.mo S.fr dF;have bu: ∀c∈Fh,c≠I/\c≠C/\c≠G/\c≠ba/\c≠bd/\c≠W:=fun c t=>by have:=lF c t;have:=d8 c t;omega
 replace S:=Y.rebase S;clear Y dF lF d8 H a7 a8;have T:=S.baseF Fh;have nh:=S.fr.n;have bb: ∀L,(∀c∈keys L [],c=I\/c=C\/c=G\/c=ba\/c=bd\/c=W)-> ∀c∈Fh,c∉keys L []:=fun L hL c t w=>by have:=bu c t;have:=hL c w;omega
 have ps:Ret zB 191 [ptrTo bP,.int .i64 (s:Nat),.int .i64 0] h _:=uU S.ok HA hs (by omega) rfl;refine step_ret ps ?_;rintro r Q ⟨f1,F1,H1,J⟩;replace S:=S.rebaseF gF (T.stepF f1 (fun c t=>⟨.inl (.inr t),bb _ (fun c t=>by simpa [keys]using t) c t⟩));have P: ∀c∈F1,h0.n<=c/\c∉keys [(I,Ob.row [ptrTo C] 1),(C,.row [ptrTo bP,.slice (some ⟨bd,0,none⟩) l.nodes l.nodes,.slice (some ⟨ba,0,none⟩) l.nodes l.nodes,.slice none 0 0,.map (some G)] 1),(G,.map [] 0),(ba,.row (zM l.nodes (.int .i64 (-1))) 1),(bd,.row (zM l.nodes (.int .i64 72057594037927936)) 1),(W,.row [.slice none 0 0,.slice none 0 0,.slice none 0 0] 1)] []:=fun c t=>by
  rcases J c t with h2|h2
  . exact⟨(gF c h2).elim (fun h=>h) (fun h=>h.elim),bb _ (fun c t=>by simpa [keys]using t) c h2⟩
  . refine⟨Xa nh h2,fun w=>?_⟩;have:=T.key_lt (b:=c) (by simpa [keys]using w);omega
 clear T bb bu hFn gF nF J HA f1;replace S:=S.nilG (k:=1);have dj:=dj_init (B:=seen l.arcs fs ft) hs;have bv:=H1.lt S.ok;have S1:=S;replace S:=S.baseF F1;simp only [BZ,S.ld (b:=I) (o:=0) m0 rfl,S.ld (b:=C) (o:=0) m1 rfl,seval];refine step_ret (uW S.ok H1 (by omega)) ?_;rintro r h2 ⟨v,k,b,rfl,f2,H2,a2,a3⟩;replace S:=S.stepF f2 (fun c t=>⟨.inl (.inr t),fun w=>(P c t).2 (by simpa [keys,fu]using w)⟩);simp only [BZ,seval];have S2:=S;replace S:=S.base;refine ac au S ?_;clear S;intro h bk S cA;simp only [BZ,seval];refine aw (aq S (i:=0) rfl ?_ ?_ ?_ ono) ?_
 . exact(by simp only [XG])
 . exact(by exact ca)
 . exact Xc (lbt rfl)
 clear S;rintro h ⟨S,mo⟩;clear mo;simp only [LC,ae,lay,Xi,Xj,seval]at S;simp only [BZ,seval];have H3:=H2.mo S.fr (fun c t w=>(P c t).2 (by simpa [keys,fu]using w));refine rb (FloodI h0 (seen l.arcs fs ft) s l.nodes I C G ba bd W bP bp gN gE) (fun O=>l.nodes-O.length) ?_ [] _ _ _ ?_
 . clear S S1 S2 H3 a2 a3 H2 f2 H1 dj P bv ps;intro O ih ρ d hS ⟨dbs,D,K,F,es,c,f,aL,vO,bk,v,key,b,hd,Y,Z,lA,MI,CF,dj,H,a2,a3,r0,r2,r3,r8,r9,r10,r11,r12⟩;simp only [XF,List.nil_append]at Y Z;have S:=Y.base;cases b with
   | false=>
     simp only [BZ,r8,r9,r12,S.ld (b:=I) (o:=0) m1 rfl,S.lds (b:=C) (o:=1) (n:=3) m2 (lbt rfl),seval];have be:Fl vO:=by
      rcases(Y.gown _ m0).1 with⟨e,_⟩|⟨_,_,e,_⟩
      . rw [show vO=_ from e];exact ce
      . rw [show vO=_ from e];exact ce
     refine aw (S.store (i:=6) rfl Tryz.t218.2.1 (by intro x e;cases e) rfl (by simp only [ae,List.drop_succ_cons,Xx,XV,List.take_zero,List.all_cons,List.all_nil,be.2.1,XB];rfl) (lbt rfl) ono) ?_;clear S;rintro h ⟨S,_⟩;simp only [LC,ae,lay,Xi,Xj,seval]at S;simp only [BZ];replace S:=(Y.rebase S).permL (L':=dq dbs++[(bk,_),(I,_),(C,_),(G,_),(ba,_),(bd,_),(W,_)]) List.perm_append_comm;subst hd;refine fS (gu dbs _ S fun h' S'=>?_);have lT:=S'.lds (b:=W) (o:=0) (n:=3) m6 (lbt rfl);refine⟨rfl,_,uz (by decide) (by simp only [aS,r8,al,seval];exact gD Tryz.t218.1 Tryz.t218.2.1 lT),S'.gr,?_⟩;refine⟨_,_,_,D,aL,O,rfl,?_,?_,?_,lA,dj.done (a3 rfl) n2,?_,dj.nd,dj.lt⟩
     . refine .inr ⟨bd,0,none,l.nodes,by rw [XN,Xs],by rw [XN,Xs];exact Xh _,?_⟩;have:=(S'.row (b:=bd) m5).load (o:=0) (n:=((zO l.nodes).map D).length*1) (by rw [qA];omega);rw [this,Xx,Xo (by rw [qA];omega)];rfl
     . refine .inr ⟨ba,0,none,l.nodes,by rw [lA],by rw [lA];exact Xh _,?_⟩;have:=(S'.row (b:=ba) m4).load (o:=0) (n:=aL.length*1) (by rw [bQ];omega);rw [this,Xx,Xo (by rw [bQ];omega)];rfl
     . exact(S'.gown _ m0).1.sl rfl iC (by decide)
     . rintro c (h|h|h)
       . have h:bd=c:=h;subst h;exact((S'.own _ m5).1).elim (fun h=>h) (fun h=>h.elim)
       . have h:ba=c:=h;subst h;exact((S'.own _ m4).1).elim (fun h=>h) (fun h=>h.elim)
       . exact((S'.gblk m0 h).1).elim (fun h=>h) (fun h=>h.elim)
   | true =>
     simp only [if_true]at H;obtain⟨hk,bw⟩:=a2 rfl;obtain⟨_,n,rfl,_,_⟩:=dj.i3 v key hk;obtain⟨b7,cb,bf,c3⟩:=dj.pop hk bw;have lk:=uK (x:=(v:Int)) Tryz.t213.1 Tryz.t3.1 (z:=.int .i64 0) (by kernel_rfl) (show hS.get G=some (.map es c)from(S.own _ m3).2) MI;rw [CF v,if_neg cb,Xz]at lk;have w1:ag .i64 1=1:=rfl;simp only [BZ,r9,r10,r12,lk,w1,S.ld (b:=I) (o:=0) m1 rfl,S.ld (b:=C) (o:=4) m2 rfl,seval];refine aw (S.mputI (i:=3) rfl Tryz.t213.1 Tryz.t3.1 MI _) ?_;clear S;rintro h ⟨_,R,c',bx,S⟩;simp only [LC]at S;simp only [BZ];refine av (ax rfl) (q:=0) (ps:=[]) (by kernel_rfl) ?_;simp only [BZ,cls,r9,r10,r11,bf,S.ld (b:=I) (o:=0) m1 rfl,S.ld (b:=C) (o:=1) m2 rfl,S.ld (b:=bk) (o:=0) m0 rfl,seval];refine dN (aq S (i:=5) rfl Tryz.t2.2.2.1 ca (by rw [qA,XN,Xs];exact bf) ono) ?_;clear S;rintro h ⟨S,_⟩;simp only [LC]at S;have eD:(eJ ((zO l.nodes).map D)).set v (.int .i64 (n:Nat))=eJ ((zO l.nodes).map fun u=>if u=v then n else D u):=(by rw [lK,lK,List.map_map,List.map_map];have:=kD (N:=l.nodes) (k:=v) (F:=(fun(x:Nat)=>Value.int .i64 x)∘D) (F':=(fun(x:Nat)=>Value.int .i64 x)∘fun u=>if u=v then n else D u) (fun u _ hu=>by simp [hu]);rw [<-this];simp);rw [eD]at S;simp only [BZ,seval];refine av (ax rfl) (q:=128) (ps:=[(0,8)]) (by kernel_rfl) ?_;simp only [BZ,cls,r9,r10,S.ld (b:=I) (o:=0) m1 rfl,S.ld (b:=C) (o:=3) m2 rfl,seval];refine ec (bg (by exact Tryz.t38.1) (by exact XW) (by decide) (by rfl)) S ?_;clear S;intro h bs S cN cQ;simp only [LC,aU,bD,ae,Xq,Xm,Xn,XE,seval]at S;simp only [BZ,cls,seval];have bB:aC h 1 (.slice (some ⟨bs,0,none⟩) 1 1)=some (1,eJ [v]):=(by simp only [aC];rw [S.lds (b:=bs) (o:=0) (n:=1*1) m0 (lbt rfl)];rfl);replace S:=S.drop1;refine jG (S.grow (j:=0) (m:=1) (new:=eJ [v]) rfl Tryz.t38.1 XW (by decide) Tryz.t38.2.2.2.2.2 bB rfl (by decide) rfl (by rw [qA,qA];have:=dj.len;simp;omega)) ?_;clear S bB;rintro h A S;simp only [LC,<-nats_app]at S;have be:Fl A:=by
      rcases(S.gown _ m0).1 with⟨e,_⟩|⟨_,_,e,_⟩
      . rw [show A=_ from e];exact ce
      . rw [show A=_ from e];exact ce
     simp only [BZ,cls,seval];refine dN (aq S (i:=2) rfl Tryz.t38.2.2.1 be (Xc (lbt rfl)) ono) ?_;clear S;rintro h ⟨S,_⟩;simp only [LC]at S;simp only [BZ,r0,r2,r10,seval];have pv:vO=.slice none 0 0\/ ∃c n,vO=.slice (some ⟨c,0,some 1⟩) n n/\c≠I:=by
      rcases(Y.gown _ m0).1 with⟨e,_⟩|⟨c,n,e,_⟩
      . exact .inl e
      . refine .inr ⟨c,n,e,fun h=>?_⟩;exact(Y.gblk (c:=c) m0 (by rw [show vO=_ from e];rfl)).2 (by subst h;exact List.mem_map_of_mem (f:=Xv) m1)
     refine⟨?_,?_⟩
     . clear ih;rcases pv with rfl|⟨cO,nO,rfl,bI⟩
       . simp only [aY,bj,aR,bo,aW,ne_eq,not_false_eq_true,bz,bK,aX,aV,bZ,cw,aS,XB,r9,al,sJ,ue,pair_x,At,pP,seval]
       . simp only [aY,bj,aR,bo,aW,ne_eq,not_false_eq_true,bz,bK,aX,aV,bZ,cw,aS,XB,r9,al,sJ,ue,im bI,im bI.symm,seval]
     have kO: ∀c∈keys ((bk,Ob.row [.int .i64 (n:Nat)] 1)::(I,.row [ptrTo C] 1)::(C,.row [ptrTo bP,.slice (some ⟨bd,0,none⟩) l.nodes l.nodes,.slice (some ⟨ba,0,none⟩) l.nodes l.nodes,vO,.map (some G)] 1)::(G,.map es c)::(ba,.row (ints aL) 1)::(bd,.row (eJ ((zO l.nodes).map D)) 1)::(W,.row [.slice none 0 0,.slice none 0 0,.slice none 0 0] 1)::dq dbs) [(vO,1,eJ O)],c<hS.n:=fun c t=>Y.key_lt t;have kS:=fun {c} t=>S.key_lt (b:=c) t;have c4:=(Y.rebase S).gr.n;refine step_ret (hN _ nb S.ok (hn.gr (Y.rebase S).gr) v bf) ?_;rintro vl h ⟨g,sl,bL⟩;have kn:=S.fr.n;have gn:=g.n;replace S:=S.call g;clear g;simp only [BZ,r3,seval];have a1:=S.fr.n;have c5:=fun {c} t=>sl.lt S.ok (b:=c) t;refine step_ret (arcs_ok' S.ok cS sl.fl iq) ?_;intro v h ⟨g,b1,b2,b3,e,q1,q2,q3,y1,y2,y3⟩;replace S:=S.call g;replace sl:=sl.gr g;clear g;subst e;simp only [BZ];have hH:=H.mo S.fr (fun c t w=>(Z c t).2 w);have bT:=H.lt Y.ok;refine js S (g:=223) (a:=#[]) (b:=#[ptrTo b1,ptrTo b2,ptrTo b3]) (by simp [bZ,am,al]) rfl rfl ?_;intro h2 db lb S' c7 c8 g2;have R1:=Y.rebase S';obtain⟨X,hX,R1⟩: ∃X:gC,X=_/\St NoM h0 h2 ((lb,.loop X)::(db,.dfr)::(bk,Ob.row [.int .i64 (n:Nat)] 1)::(I,.row [ptrTo C] 1)::(C,.row [ptrTo bP,.slice (some ⟨bd,0,none⟩) l.nodes l.nodes,.slice (some ⟨ba,0,none⟩) l.nodes l.nodes,A,.map (some G)] 1)::(G,.map R c')::(ba,.row (ints aL) 1)::(bd,.row (eJ ((zO l.nodes).map fun u=>if u=v then n else D u)) 1)::(W,.row [.slice none 0 0,.slice none 0 0,.slice none 0 0] 1)::dq dbs) [(A,1,eJ (O++[v]))]:=⟨_,rfl,R1⟩;have bX:ClF (O++[v]) (en f (v:Int) (some (.int .i64 1))):=fun u=>by
      unfold en;by_cases e:u=v
      . subst e;simp
      . have e': ¬((u:Int)=(v:Int)):=(by omega);rw [if_neg e',CF u];simp [e]
     have hJ :Yld zB lb (fun k h' F'=> ∃K' Fh E,St NoM h0 h' ((lb,.loop X)::(db,.dfr)::(bk,Ob.row [.int .i64 (n:Nat)] 1)::(I,.row [ptrTo C] 1)::(C,.row [ptrTo bP,.slice (some ⟨bd,0,none⟩) l.nodes l.nodes,.slice (some ⟨ba,0,none⟩) l.nodes l.nodes,A,.map (some G)] 1)::(G,.map R c')::(ba,.row (ints E) 1)::(bd,.row (eJ ((zO l.nodes).map fun u=>if u=v then n else D u)) 1)::(W,.row [.slice none 0 0,.slice none 0 0,.slice none 0 0] 1)::dq dbs) [(A,1,eJ (O++[v]))]/\
      dZ h' Fh (ptrTo bP) l.nodes K'/\(∀c∈Fh,h0.n<=c/\c∉keys ((lb,.loop X)::(db,.dfr)::(bk,Ob.row [.int .i64 (n:Nat)] 1)::(I,.row [ptrTo C] 1)::(C,.row [ptrTo bP,.slice (some ⟨bd,0,none⟩) l.nodes l.nodes,.slice (some ⟨ba,0,none⟩) l.nodes l.nodes,A,.map (some G)] 1)::(G,.map R c')::(ba,.row (ints E) 1)::(bd,.row (eJ ((zO l.nodes).map fun u=>if u=v then n else D u)) 1)::(W,.row [.slice none 0 0,.slice none 0 0,.slice none 0 0] 1)::dq dbs) [(A,1,eJ (O++[v]))])/\
      E.length=l.nodes/\Dj (seen l.arcs fs ft) s l.nodes (O++[v]) (fun u=>if u=v then n else D u) K' (fun a=> ∃id∈(outs l.arcs fs l.arcs.length v).drop k,(seen l.arcs fs ft).getD id default=a)/\
      F'=keys ((lb,.loop X)::(db,.dfr)::(bk,Ob.row [.int .i64 (n:Nat)] 1)::(I,.row [ptrTo C] 1)::(C,.row [ptrTo bP,.slice (some ⟨bd,0,none⟩) l.nodes l.nodes,.slice (some ⟨ba,0,none⟩) l.nodes l.nodes,A,.map (some G)] 1)::(G,.map R c')::(ba,.row (ints E) 1)::(bd,.row (eJ ((zO l.nodes).map fun u=>if u=v then n else D u)) 1)::(W,.row [.slice none 0 0,.slice none 0 0,.slice none 0 0] 1)::dq dbs) [(A,1,eJ (O++[v]))]++Fh) (fun _ _=>False) (pT l.arcs ft (outs l.arcs fs l.arcs.length v)):=by
      clear ih S' R1 y1 y2 y3 hH S g2 H Z sl;refine⟨?_,?_,fun _ _ h=>h.elim,?_⟩
      . rintro k h F' ⟨K',Fh,E,S,H,Z,_,_,rfl⟩;exact⟨S.ok,fun b hb=>(List.mem_append.1 hb).elim (fun hb=>S.key_lt hb) (fun hb=>H.lt S.ok b hb)⟩
      . rintro k h F' h' ⟨K',Fh,E,S,H,q⟩ g;exact⟨K',Fh,E,S.call g,H.gr g,q⟩
      . rintro k x h F' hx ⟨K',Fh,E,S,H,Z,bh,U,rfl⟩;have bi:k<(outs l.arcs fs l.arcs.length v).length:=(by have:=(List.getElem?_eq_some_iff.1 hx).1;simpa [pT]using this);unfold pT at hx;rw [XQ,Xr bi]at hx;cases hx;have w:=sH.1 (XA bi);rw [X5 bi]at U;generalize(outs l.arcs fs l.arcs.length v)[k]=id at w U;obtain⟨ad,bl⟩:=w;subst hX;refine ju (S.get m0) (by rw [Tryz.e138];rfl) rfl ?_;have S1:=S;replace S:=S.base;simp only [BZ,seval];refine ac au S ?_;clear S;intro h bY S cc;simp only [BZ,Xb,cE,seval];refine aw (S.store (i:=0) rfl ?_ ?_ rfl rfl ?_ ono) ?_
        . exact(by exact Tryz.t90.2.1)
        . exact(by intro x e;cases e)
        . exact lbt rfl
        clear S;rintro h ⟨S,mo⟩;clear mo;simp only [LC,ae,lay,Xi,Xj,seval]at S;simp only [BZ];refine iT S (i:=1) rfl rfl rfl rfl rfl ?_;clear S;intro h S;simp only [LC]at S;have af:l.arcs.getD id default∈l.arcs:=(by rw [Xg,Xr ad];exact XA ad);have c9:=a0.arcs _ af;have dd:O.length*WMAX<=12*WMAX:=Ym _ (Xa dj.len n2);have cT:=WMAX_eq;have wn:ag .i64 ((n:Int)+((l.arcs.getD id default).w:Int))=((n+(l.arcs.getD id default).w:Nat):Int):=(by rw [wrap64]<;>omega);simp only [BZ,r9,r11,wn,S.ld (b:=I) (o:=0) m4 rfl,S.ld (b:=bY) (o:=1) m0 rfl,S.ld (b:=bY) (o:=2) m0 rfl,S.ld (b:=bk) (o:=0) m3 rfl,seval];have hH:=H.mo S.fr (fun c t w=>(Z c t).2 w);have b0:=H.lt S1.ok;have d3:C≠ba:=fun e=>(by have ap:=S1.apart;subst e;simp only [keys,Xt,XF,XC,XJ]at ap;exact ap.2.2.2.2.1 (.inr (.inl trivial)));replace S:=S.mono (M':=fun c=>c∈keys _ _\/c∈Fh) (fun _ h=>.inl h);refine step_ret (reach_ok S.ok (arc:=id) (far:=n+(l.arcs.getD id default).w) (S.row m5) hH (by omega) (S.own _ m6).2 bx bX (S.row m7) bh (bm _ af) (fun h=>(Z ba h).2 (by simp [keys])) (fun h=>(Z C h).2 (by simp [keys])) d3) ?_;rintro r h ⟨f1,F2,cf,H2,ai,ch,cl,de⟩;have kq:=fun {c} t=>S.key_lt (b:=c) t;have qn:=S.fr.n;have S2:=S.callF (i:=7) (Fh:=Fh) rfl f1 (fun c t=>⟨.inl (.inr t),fun w=>by
         rcases List.mem_cons.1 w with e|w
         . have:=b0 c t;omega
         . exact(Z c t).2 w⟩) (o':=.row _ 1) ch
        simp only [List.set_cons_zero,List.set_cons_succ]at S2;clear S;simp only [BZ];have S:=S2.base;refine fG S (i:=1) rfl ?_;clear S;intro h S;simp only [LC]at S;have H3:=H2.mo S.fr (fun c t w=>by
         rcases ai c t with Q|Q
         . rcases List.mem_cons.1 w with e|w
           . have:=b0 c Q;omega
           . exact(Z c Q).2 w
         . have:=kq w;omega)
        have S3:=S2.rebase S;refine .inl ⟨rfl,_,⟨_,F2,cf,S1.rebaseF (fun c t=>.inl (Z c t).1) S3.drop1,H3,fun c t=>?_,cl,?_,rfl⟩,S3.fr.mono (fun c t=>List.mem_append.2 t),fun c t=>?_⟩
        . rcases ai c t with Q|Q
          . exact Z c Q
          . refine⟨Xa S1.fr.n (Xa qn Q),fun w=>?_⟩;have:=kq (XI _ w);omega
        . obtain⟨e1,e2⟩:=seen_at (fs:=fs) (ft:=ft) ad;have:=U.relaxed (ex':=fun a=> ∃cm∈(outs l.arcs fs l.arcs.length v).drop (k+1),(seen l.arcs fs ft).getD cm default=a) e2 (by rw [e1];show fs _∈_;rw [bl];simp) (by rw [e1];exact bm _ af) (by rw [e1];simp only [bl,if_true];rw [XD,Yh,Nat.succ_mul];omega) (fun b hb hx=>by
           by_cases eb:b=(seen l.arcs fs ft).getD id default
           . exact .inr eb
           . left;rintro⟨i,hi,rfl⟩;rcases List.mem_cons.1 hi with e|hi
             . subst e;exact eb rfl
             . exact hx ⟨i,hi,rfl⟩)
          simp only [e1,bl,if_true]at this;exact this
        . rcases List.mem_append.1 t with t|t
          . exact .inl (List.mem_append_left _ t)
          . rcases ai c t with Q|Q
            . exact .inl (Yf _ Q)
            . exact .inr (Xa qn Q)
     have ak:=(Y.rebase S).gr;have cW:=qE l.arcs fs l.arcs.length v;have df:=a0.many;refine eQ (iter_useN (arcs_it (hq:=h0) ok S.ok ak.keep ak.n hn sl (fun id ad=>(sH.1 ad).1) (by omega) hE y1 y2 y3) (fun _ _ h=>h) hJ (h:=h2) (F:=keys ((lb,.loop X)::(db,.dfr)::(bk,Ob.row [.int .i64 (n:Nat)] 1)::(I,.row [ptrTo C] 1)::(C,.row [ptrTo bP,.slice (some ⟨bd,0,none⟩) l.nodes l.nodes,.slice (some ⟨ba,0,none⟩) l.nodes l.nodes,A,.map (some G)] 1)::(G,.map R c')::(ba,.row (ints aL) 1)::(bd,.row (eJ ((zO l.nodes).map fun u=>if u=v then n else D u)) 1)::(W,.row [.slice none 0 0,.slice none 0 0,.slice none 0 0] 1)::dq dbs) [(A,1,eJ (O++[v]))]++F) g2.fr (fun b hb hlt=>?_)
      ⟨eV K v none,F,aL,R1,hH.gr g2,fun c t=>⟨(Z c t).1,fun w=>?_⟩,lA,b7.exm (fun a ha hs=>?_),rfl⟩) fun o rc h' y=>mm y ?_
     . rcases List.mem_append.1 hb with V|V
       . have k2:=(R1.key_own V).elim (fun h=>h) (fun h=>h.elim);rcases List.mem_cons.1 V with e|V
         . simp only []at e;omega
         . rcases List.mem_cons.1 V with e|V
           . simp only []at e;omega
           . have k1:=kS V;rintro(h|h|h|h|h)
             . omega
             . omega
             . omega
             . have:=bL b h;omega
             . omega
       . have k1:=bT b V;have k2:=(Z b V).1;rintro(h|h|h|h|h)
         . omega
         . omega
         . omega
         . have:=bL b h;omega
         . omega
     . have k1:=bT c t;have dn:=S.fr.n;rcases List.mem_cons.1 w with e|w
       . simp only []at e;omega
       . rcases List.mem_cons.1 w with e|w
         . simp only []at e;omega
         . rcases S.key_own w with Q|Q
           . omega
           . exact(Z c t).2 Q
     . obtain⟨i,hi,e⟩:=seen_mem ha;refine⟨i,?_,e⟩;rw [Xx];refine sH.2 ⟨hi,?_⟩;have:=(seen_at (fs:=fs) (ft:=ft) hi).1;rw [e]at this;rw [this]at hs;exact hs
     . rintro Fx ⟨K',a4,E,T,H',J,bh,U,rfl⟩;clear hJ R1 y1 y2 y3 hH S' S;rw [show(pT l.arcs ft (outs l.arcs fs l.arcs.length v)).length=(outs l.arcs fs l.arcs.length v).length by simp [pT],List.drop_length]at U;replace U:=U.exm (ex':=fun _=>False) (fun a _ h=>by obtain⟨i,hi,_⟩:=h;cases hi);subst hX;refine⟨_,T.get m0,Nat.zero_ne_one,?_⟩;have ai: ∀c∈a4,c≠lb:=fun c t e=>(J c t).2 (by rw [e];exact m0);have H2:=H'.mo ((Mo.refl (M:=(· =lb)) T.ok).put (.inr rfl) .dead) ai;replace T:=T.dead;replace J:=fun c t=>And.intro (J c t).1 (fun w=>(J c t).2 (XI _ w));have S:=T.base;show Run _ _ _ _ _ _ _ _;simp only [BZ,if_false,r11,S.ld (b:=bk) (o:=0) m1 rfl,seval];refine ac au S ?_;clear S;intro h a5 S cn;simp only [BZ,r11,seval];refine aw (aq S (i:=0) rfl ?_ ?_ ?_ ono) ?_
       . exact(by simp only [XG])
       . exact(by exact ca)
       . exact Xc (lbt rfl)
       clear S;rintro h ⟨S,mo⟩;clear mo;simp only [LC,ae,lay,Xi,Xj,seval]at S;simp only [BZ,r9,S.ld (b:=I) (o:=0) m3 rfl,S.ld (b:=C) (o:=0) m4 rfl,seval];have H3:=H2.mo S.fr (fun c t w=>(J c t).2 w);have cp:=H2.lt T.ok;have a6: ∀c∈a4,h0.n<=c/\c∉keys ([(a5,Ob.row [.int .i64 (n:Nat)] 1),(I,.row [ptrTo C] 1),(C,.row [ptrTo bP,.slice (some ⟨bd,0,none⟩) l.nodes l.nodes,.slice (some ⟨ba,0,none⟩) l.nodes l.nodes,A,.map (some G)] 1),(G,.map R c'),(ba,.row (ints E) 1),(bd,.row (eJ ((zO l.nodes).map fun u=>if u=v then n else D u)) 1),(W,.row [.slice none 0 0,.slice none 0 0,.slice none 0 0] 1)]++dq (db::dbs)) [(A,1,eJ (O++[v]))]:=fun c t=>by
        refine⟨(J c t).1,fun w=>?_⟩;have Q:=(J c t).2;have h2:=cp c t;simp [keys,dq]at w;rcases w with h|h|h|h|h|h|h|h|h|h
        . omega
        all_goals exact Q (by simp [keys,dq,h])
       replace S:=(T.rebase S).sub (L':=(a5,Ob.row [.int .i64 (n:Nat)] 1)::(db,.dfr)::(I,.row [ptrTo C] 1)::(C,.row [ptrTo bP,.slice (some ⟨bd,0,none⟩) l.nodes l.nodes,.slice (some ⟨ba,0,none⟩) l.nodes l.nodes,A,.map (some G)] 1)::(G,.map R c')::(ba,.row (ints E) 1)::(bd,.row (eJ ((zO l.nodes).map fun u=>if u=v then n else D u)) 1)::(W,.row [.slice none 0 0,.slice none 0 0,.slice none 0 0] 1)::dq dbs) (G':=[(A,1,eJ (O++[v]))]) (.cons_cons _ (.cons_cons _ (Yd _ _))) (List.Sublist.refl _);replace S:=S.permL (L':=[(a5,Ob.row [.int .i64 (n:Nat)] 1),(I,.row [ptrTo C] 1),(C,.row [ptrTo bP,.slice (some ⟨bd,0,none⟩) l.nodes l.nodes,.slice (some ⟨ba,0,none⟩) l.nodes l.nodes,A,.map (some G)] 1),(G,.map R c'),(ba,.row (ints E) 1),(bd,.row (eJ ((zO l.nodes).map fun u=>if u=v then n else D u)) 1),(W,.row [.slice none 0 0,.slice none 0 0,.slice none 0 0] 1)]++dq (db::dbs)) (.cons _ (by
        show(List.append [_,_,_,_,_,_] ((db,Ob.dfr)::dq dbs)).Perm _;exact List.perm_middle))
       clear T H' H2 J;have T:=S.baseF a4;refine step_ret (uW S.ok H3 (by omega)) ?_;rintro rr h3 ⟨v3,k3,cr,rfl,f3,H4,b4,b5⟩;replace S:=S.rebaseF (fun c t=>.inl (a6 c t).1) (T.stepF f3 (fun c t=>⟨.inl (.inr t),(a6 c t).2⟩));simp only [BZ,r11,seval];clear T;have T:=S;replace S:=S.base;simp only [LC]at S;refine aw (aq S (i:=0) rfl ?_ ?_ ?_ ono) ?_
       . exact(by simp only [XG])
       . exact(by exact ca)
       . exact Xc (lbt rfl)
       clear S;rintro h ⟨S,mo⟩;clear mo;simp only [LC,ae,lay,Xi,Xj,seval]at S;simp only [BZ,seval];have H5:=H4.mo S.fr (fun c t w=>(a6 c t).2 w);replace S:=T.rebase S;subst hd;have dr:(O++[v]).length=O.length+1:=(by simp);have cX:=U.len;refine ih (O++[v]) _ _ _ (by omega) ⟨db::dbs,_,K',a4,R,c',_,E,A,a5,v3,k3,cr,rfl,S,a6,bh,bx,bX,U,H5,b4,b5,?_⟩;refine(by simp [am,r0,al,r2,r3,r8,r9])
 . have e1:eJ ((zO l.nodes).map fun _=>FAR)=zM l.nodes (.int .i64 72057594037927936):=(by rw [lK,List.map_const',Xs,List.map_replicate];rfl);have e2:ints (zM l.nodes (-1))=zM l.nodes (.int .i64 (-1)):=(by rw [ints_map,List.map_replicate]);have S3:=S1.rebaseF (fun c t=>.inl (P c t).1) (S2.rebase S);have nn:=S2.fr.n;refine⟨[],fun _=>FAR,eV (fun _=>none) s (some 0),F1,[],0,fun _=>none,zM l.nodes (-1),.slice none 0 0,bk,v,k,b,rfl,?_,?_,by simp,vj,fun u=>by simp,dj,H3,a2,a3,?_⟩
   . rw [e1,e2];exact S3
   . rw [e1,e2];intro c t;refine⟨(P c t).1,fun w=>?_⟩;have Q:=(P c t).2;have h2:=bv c t;simp [keys,fu,dq]at w Q;omega
   . refine(by simp [am,al,cq,cV])
end Go.Ab
end

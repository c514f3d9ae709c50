/- Nets, cells, flags: what the functions do (part 2). -/
import Derived.Test.YtddjlflghenhkaaGreatDoorKatA
open Go.Ab.Tryz
open Go.Ab.Tryz renaming abEnv->zM,e3E->XO,e330E->X9
open List renaming replicate->zO,getD_eq_getElem?_getD->Xa,getElem?_eq_getElem->Xb,mem_of_getElem?->Xd,mem_append_left->Xe,flatMap_eq_foldl->Xf,length_set->Xh,mem_append_right->Xl,getElem?_eq_none->Xm,getElem?_map->Xp,take->Xq,drop->Xr,getElem?_replicate->Xs,map_cons->Xv,ext_getElem?->Xw,length_take->Xy,getElem_mem->XA,map_eq_flatMap->XE,nodup_cons->XF,append_nil->XG,length_append->XH,range->XJ,nodup_append->XK,mem_cons->XN,length_replicate->XP,take_append_of_le_length->XR,drop_zero->XU,filterMap_nil->XV,getElem?_append_right->XX,drop_eq_getElem_cons->XY,length_map->X6,mem_of_mem_take->Ya,getElem?_append->Yb,mem_cons_of_mem->Yc,getElem?_range->Yd,flatMap_append->Ye,take_replicate->Yf,replicate_zero->Yg,map_nil->Yk,map_set->Ym
open Int renaming cast_ofNat_Int->Xc,toNat_natCast->XL,ofNat_eq_natCast->X8,ofNat->Yi
open Nat renaming lt_of_succ_le->Xg,ble_eq_true_of_le->Xi,le_trans->Xk,mul_one->Xn,zero_add->Xo,zero_mul->Xx,one_mul->XC,le_refl->XD,lt_of_lt_of_le->XI,zero_le->XM,beq->XS,ble->XT,le_total->XZ,eq_of_beq_eq_true->X7,beq_refl->Yh,sub_self->Yj,le_of_lt->Yl
open Option renaming isSome_none->Xj,getD_some->Xt,getD_none->Xz,map_some->XB,map_none->XQ
open Prod renaming fst->Xu
open Bool renaming and_true->XW
set_option maxHeartbeats 4000000
set_option linter.defProp false
set_option linter.unusedVariables false
set_option linter.unusedSimpArgs false
namespace Go.Ab
variable{a x:Int}
variable{y:Operand}
variable{N b b1 b2 br c cap d e f i j k m n s u v:Nat}
variable{p pn w z:Value}
variable{D M:Nat->Prop}
variable{h h' h0 hq:Hp}
variable{B F O xs:List Nat}
variable{g:FuncId}
variable{L:Nat->Nat}
variable{cs:List Value}
variable{E:Env}
variable{t:TypeId}
variable{kd:IntKind}
variable{ρ:Operand->Value}
variable{key pi:Nat->Int}
variable{K:Nat->Option Int}
def EM(l:List (Int×Value×Nat)):List (Value×Value×Nat):=l.map fun p=>(.int .i64 p.1,p.2.1,p.2.2)
def dS(f:Int->Option Value)(x:Int)(v:Option Value):Int->Option Value:=fun y=>if y=x then v else f y
def dL(a:List (Value×Value×Nat))(c:Nat)(f:Int->Option Value):Prop:=
 ∃l,a=EM l/\(l.map Xu).Nodup/\(l.map fun p=>p.2.2).Nodup/\(∀p∈l,p.2.2<c)/\ ∀x v,f x=some v↔ ∃n,(x,v,n)∈l
theorem v9{y:Int}:cF (.int .i64 x) (.int .i64 y)=some (decide (x=y)):=by show some (jg x y)=_;congr 1;rw [pD]
theorem BC{l:List (Int×Value×Nat)}(a:(l.map Xu).Nodup){v:Value}(h:(x,v,n)∈l):bI (.int .i64 x) (EM l)=some (some (v,n)):=by
 induction l with
 |nil=>cases h
 | cons p l b=>
   obtain⟨y,w,m⟩:=p;show(match cF (.int .i64 x) (.int .i64 y)with|none=>none|some true=>some (some (w,m))|some false=>bI (.int .i64 x) (EM l))=_;rw [v9];grind
theorem find_miss{l:List (Int×Value×Nat)}(h:x∉l.map Xu):bI (.int .i64 x) (EM l)=some none:=by
 induction l with
 |nil=>rfl| cons p l a=>
   obtain⟨y,w,m⟩:=p;show(match cF (.int .i64 x) (.int .i64 y)with|none=>none|some true=>some (some (w,m))|some false=>bI (.int .i64 x) (EM l))=_;simp_all[v9,Xv,XN,not_or,decide_eq_false]
theorem uJ{l:List (Int×Value×Nat)}(c:(l.map Xu).Nodup){v:Value}(h:(x,v,n)∈l):
 ∃a b,l=a++(x,v,n)::b/\(∀w,jS (.int .i64 x) w (EM l)=EM (a++(x,w,n)::b))/\mr (.int .i64 x) (EM l)=EM (a++b):=by
 induction l with
 |nil=>cases h
 | cons p l d=>
   obtain⟨y,w,m⟩:=p;rw [Xv,XF]at c;by_cases e:x=y
   . subst e;rcases List.mem_cons.1 h with h|h
     . cases h;refine⟨[],l,rfl,fun u=>?_,?_⟩
       . show(match cF (.int .i64 x) (.int .i64 x)with|some true=>_|_=>_)=_;rw [v9,decide_eq_true rfl];rfl
       . show(match cF (.int .i64 x) (.int .i64 x)with|some true=>_|_=>_)=_;rw [v9,decide_eq_true rfl];rfl
     grind
   . rcases List.mem_cons.1 h with h|h
     . grind
     grind[cF,jS,EM,v9,decide_eq_false,mr]
theorem wF{a b:List (Int×Value×Nat)}{v:Value}(c:((a++(x,v,n)::b).map fun p=>p.2.2).Nodup):jy n w (EM (a++(x,v,n)::b))=some (EM (a++(x,w,n)::b)):=by
 induction a with
 | nil=>
   show(bif XS n n then _ else _)=_;rw [Yh];rfl
 | cons p a d=>
   obtain⟨y,u,m⟩:=p;rw [List.cons_append,Xv,XF]at c;grind[XS,X7,absurd,jy,EM]
theorem fst_app{a b:List (Int×Value×Nat)}{v:Value}:(a++(x,v,n)::b).map Xu=a.map Xu++x::b.map Xu:=by simp
section
variable{es:List (Value×Value×Nat)}{c:Nat}{f:Int->Option Value}{x:Int}
theorem nJ:dL [] 0 (fun _=>none):=⟨[],rfl,.nil,.nil,fun _ h=>(by cases h),fun x v=>⟨fun h=>(by cases h),fun⟨_,h⟩=>(by cases h)⟩⟩
theorem dL.hit(h:dL es c f){v:Value}(hf:f x=some v): ∃n,bI (.int .i64 x) es=some (some (v,n)):=by obtain⟨l,rfl,a,b,d,e⟩:=h;grind[hf,BC]
theorem dL.miss(h:dL es c f)(hf:f x=none):bI (.int .i64 x) es=some none:=by obtain⟨l,rfl,e,g,i,a⟩:=h;refine find_miss fun b=>?_;obtain⟨⟨y,v,n⟩,d,rfl⟩:=List.mem_map.1 b;have:=(a y v).2 ⟨n,d⟩;grind
theorem xB{a b:List (Int×Value×Nat)}{v:Value}(e:((a++(x,v,n)::b).map Xu).Nodup)(j:((a++(x,v,n)::b).map fun p=>p.2.2).Nodup)(g: ∀p∈a++(x,v,n)::b,p.2.2<c)
 (k: ∀x' v',f x'=some v'↔ ∃h,(x',v',h)∈a++(x,v,n)::b):dL (EM (a++(x,w,n)::b)) c (dS f x (some w)):=by
 have i:=e;rw [fst_app,XK]at i;refine⟨_,rfl,by grind,by grind,fun p d=>?_,fun y u=>?_⟩
 . rcases List.mem_append.1 d with d|d
   . grind
   . rcases List.mem_cons.1 d with rfl|d
     . exact g (x,v,n) (by simp)
     grind
 . unfold dS;grind
theorem wZ{l:List (Int×Value×Nat)}(g:(l.map Xu).Nodup)(h:(l.map fun p=>p.2.2).Nodup)(i: ∀p∈l,p.2.2<c)(b: ∀x' v',f x'=some v'↔ ∃d,(x',v',d)∈l)(hf:f x=none):
 dL (EM (l++[(x,w,c)])) (c+1) (dS f x (some w)):=by
 have j:x∉l.map Xu:=fun e=>by obtain⟨⟨y,v,n⟩,a,rfl⟩:=List.mem_map.1 e;have:=(b y v).2 ⟨n,a⟩;grind
 refine⟨_,rfl,?_,?_,fun p a=>?_,fun y u=>?_⟩
 . grind
 . grind
 . grind
 . unfold dS;grind
theorem em_app(l:List (Int×Value×Nat))(v:Value)(n:Nat):EM l++[(.int .i64 x,v,n)]=EM (l++[(x,v,n)]):=by unfold EM;grind
theorem dL.put(h:dL es c f)(v:Value): ∃es' c',(match bI (.int .i64 x) es with|none=>none|some (some _)=>some (jS (.int .i64 x) v es,c)|some none=>some (es++[(.int .i64 x,v,c)],c+1))=some (es',c')/\dL es' c' (dS f x (some v)):=by
 cases hf:f x with
 | none=>
   rw [h.miss hf];obtain⟨l,rfl,d,i,j,g⟩:=h;exact⟨_,_,rfl,by rw [em_app];exact wZ d i j g hf⟩
 | some w=>
   obtain⟨n,e⟩:=h.hit hf;rw [e];obtain⟨l,rfl,d,i,j,g⟩:=h;obtain⟨m,k⟩:=(g x w).1 hf;obtain⟨a,b,rfl,o,_⟩:=uJ d k;exact⟨_,_,rfl,by rw [o];exact xB d i j g⟩
theorem del_miss{l:List (Int×Value×Nat)}(h:x∉l.map Xu):mr (.int .i64 x) (EM l)=EM l:=by
 induction l with
 |nil=>rfl| cons p l a=>
   obtain⟨y,w,m⟩:=p;simp only [Xv,XN,not_or]at h;grind[cF,mr,EM,v9,decide_eq_false]
theorem dL.del(h:dL es c f):dL (mr (.int .i64 x) es) c (dS f x none):=by
 obtain⟨l,rfl,d,o,g,i⟩:=h;cases hf:f x with
 | none=>
   have q:x∉l.map Xu:=fun e=>(by obtain⟨⟨y,v,n⟩,j,rfl⟩:=List.mem_map.1 e;have:=(i y v).2 ⟨n,j⟩;grind);rw [del_miss q];refine⟨l,rfl,d,o,g,fun y u=>?_⟩;unfold dS;grind
 | some w=>
   obtain⟨m,e⟩:=(i x w).1 hf;obtain⟨a,b,rfl,_,r⟩:=uJ d e;rw [r];have k:=d;rw [fst_app,XK]at k;obtain⟨t,s,z⟩:=k;rw [XF]at s;refine⟨a++b,rfl,?_,?_,fun p j=>g p ?_,fun y u=>?_⟩
   . grind
   . grind
   . grind
   . unfold dS;grind
theorem dL.ent(h:dL es c f)(z:Value): ∃d c1 n,(match bI (.int .i64 x) es with|none=>none|some (some (v,n))=>some (jS (.int .i64 x) v es,c,v,n)|some none=>some (es++[(.int .i64 x,z,c)],c+1,z,c))=some (d,c1,(f x).getD z,n)/\dL d c1 (dS f x (some ((f x).getD z)))/\
 ∀w,∃es2,jy n w d=some es2/\dL es2 c1 (dS f x (some w)):=by
 cases hf:f x with
 | none=>
   rw [h.miss hf];obtain⟨l,rfl,g,i,o,j⟩:=h;have k:=wZ (w:=z) g i o j hf;refine⟨_,_,_,rfl,by rw [em_app];exact k,fun w=>?_⟩;rw [em_app];obtain⟨t,e,u,y,A,B⟩:=k;have s:((l++(x,z,c)::[]).map fun p=>p.2.2).Nodup:=(by grind);exact⟨_,wF s,wZ g i o j hf⟩
 | some v=>
   obtain⟨l,rfl,g,i,o,j⟩:=h;obtain⟨m,q⟩:=(j x v).1 hf;rw [BC g q];obtain⟨a,b,rfl,r,_⟩:=uJ g q;refine⟨_,_,_,rfl,by rw [r];exact xB g i o j,fun w=>?_⟩;rw [r];exact⟨_,wF (by simpa using i),xB g i o j⟩
end
section
variable{M:Nat->Prop}{h0 h:Hp}{L:List (Nat×Ob)}{G:List GL}{E:Env}{t kt el:TypeId}{b c:Nat}{es:List (Value×Value×Nat)}{f:Int->Option Value}{x:Int}
theorem uT(a:E.und kt=some (.int .i64)):bQ E kt (.int .i64 x)=true:=by simp only [bQ,a];rfl
theorem nI(a:E.und t=some (.map kt el))(d:E.und kt=some (.int .i64))(g:E.zeroV el=some z)(i:h.get b=some (.map es c))(m:dL es c f):
 dw E h t (.map (some b)) (.int .i64 x) true=some (.tuple #[(f x).getD z,.bool (f x).isSome]):=by
 simp only [dw,a,uT d,cond_true,i];cases hf:f x with
 |none=>rw [m.miss hf];simp [g]|some v=>obtain⟨n,e⟩:=m.hit hf;rw [e];simp
theorem li(a:E.und t=some (.map kt el))(d:E.und kt=some (.int .i64))(g:E.zeroV el=some z)(i:h.get b=some (.map es c))(m:dL es c f):
 dw E h t (.map (some b)) (.int .i64 x) false=some ((f x).getD z):=by
 simp only [dw,a,uT d,cond_true,i];cases hf:f x with
 |none=>rw [m.miss hf];simp [g]|some v=>obtain⟨n,e⟩:=m.hit hf;rw [e];simp
theorem qL{x:Blk}{es':List (Value×Value×Nat)}{c':Nat}(a:h.get b=some x):(h.put b (.map es' c')).get b=some (.map es' c'):=by rw [Hp.get_put,if_pos ⟨rfl,by rw [a];rfl⟩]
theorem St.mputI(S:St M h0 h L G)(a:L[i]? =some (b,.map es c))(e:E.und t=some (.map kt el))(g:E.und kt=some (.int .i64))(m:dL es c f)(v:Value):
 ∃h',d6 E h t (.map (some b)) (.int .i64 x) v=some h'/\Mo (· =b) h h'/\ ∃es' c',dL es' c' (dS f x (some v))/\St M h0 h' (L.set i (b,.map es' c')) G:=by
 have d:h.get b=some (.map es c):=(S.own _ (Xd a)).2;obtain⟨es',c',k,j⟩:=m.put (x:=x) v;refine⟨h.put b (.map es' c'),?_,(Mo.refl (M:=(· =b)) S.ok).put (.inr rfl) _,es',c',j,S.put a (o':=.map es' c') (qL d)⟩;simp only [d6,kP,e,uT g,cond_true,d];grind
theorem St.mdelI(S:St M h0 h L G)(a:L[i]? =some (b,.map es c))(g:E.und t=some (.map kt el))(j:E.und kt=some (.int .i64))(m:dL es c f):
 ∃h',oq E h t (.map (some b)) (.int .i64 x)=some h'/\Mo (· =b) h h'/\ ∃es' c',dL es' c' (dS f x none)/\St M h0 h' (L.set i (b,.map es' c')) G:=by
 have d:h.get b=some (.map es c):=(S.own _ (Xd a)).2;refine⟨h.put b (.map (mr (.int .i64 x) es) c),?_,(Mo.refl (M:=(· =b)) S.ok).put (.inr rfl) _,_,c,m.del (x:=x),S.put a (o':=.map _ c) (qL d)⟩;simp only [oq,kP,g,uT j,cond_true,d];cases hf:f x with
 |none=>rw [m.miss hf]|some v=>obtain⟨n,e⟩:=m.hit hf;rw [e]
theorem St.mentI(S:St M h0 h L G)(a:L[i]? =some (b,.map es c))(e:E.und t=some (.map kt el))(g:E.und kt=some (.int .i64))(j:E.zeroV el=some z)(m:dL es c f):
 ∃ h' n,kY E h t (.map (some b)) (.int .i64 x)=some (h',.tuple #[(f x).getD z,.int .i64 (Yi n)])/\Mo (· =b) h h'/\ ∃es' c',dL es' c' (dS f x (some ((f x).getD z)))/\St M h0 h' (L.set i (b,.map es' c')) G/\
   ∀w,∃es2,jy n w es'=some es2/\dL es2 c' (dS f x (some w)):=by
 have d:h.get b=some (.map es c):=(S.own _ (Xd a)).2;obtain⟨es',c',n,o,k,l⟩:=m.ent (x:=x) z;refine⟨h.put b (.map es' c'),n,?_,(Mo.refl (M:=(· =b)) S.ok).put (.inr rfl) _,es',c',k,S.put a (o':=.map es' c') (qL d),l⟩;simp only [kY,kP,e,uT g,cond_true,d,j];grind
theorem St.mstoreI(S:St M h0 h L G)(a:L[i]? =some (b,.map es c)){es2:List (Value×Value×Nat)}(e:jy n w es=some es2):
 ∃h',m8 h (.map (some b)) (.int .i64 (Yi n)) w=some h'/\Mo (· =b) h h'/\St M h0 h' (L.set i (b,.map es2 c)) G:=by
 have d:h.get b=some (.map es c):=(S.own _ (Xd a)).2;refine⟨h.put b (.map es2 c),?_,(Mo.refl (M:=(· =b)) S.ok).put (.inr rfl) _,S.put a (o':=.map es2 c) (qL d)⟩;simp only [m8,d,jf,e]
end
def nG(x:Hd):List Value:=[.int .i64 x.id,.int .i64 x.key]
theorem lV(x:Hd):(nG x).length=2:=rfl
structure eX(cs:List Value)(cap:Nat)(l:List Hd):Prop where
 len:cs.length=cap*2
 le:l.length<=cap
 at0: ∀i,i<l.length->cs[i*2]? =some (.int .i64 (l.getD i default).id)/\cs[i*2+1]? =some (.int .i64 (l.getD i default).key)
def mq(f:Int->Option Value)(l:List Hd):Prop:=(∀i,i<l.length->f (l.getD i default).id=some (.int .i64 i))/\ ∀x v,f x=some v-> ∃i,i<l.length/\x=(l.getD i default).id
section
variable{h:Hp}{bl cap i:Nat}{cs:List Value}{l:List Hd}{md:Nat}
theorem eX.ld0(c:eX cs cap l)(r:Row h bl cs md)(a:i<l.length):h.load bl (i*2) 1=some [.int .i64 (l.getD i default).id]:=r.load1 (c.at0 i a).1
theorem eX.ld1(c:eX cs cap l)(r:Row h bl cs md)(a:i<l.length):h.load bl (i*2+1) 1=some [.int .i64 (l.getD i default).key]:=r.load1 (c.at0 i a).2
theorem eX.ld2(c:eX cs cap l)(r:Row h bl cs md)(a:i<l.length):h.load bl (i*2) 2=some [.int .i64 (l.getD i default).id,.int .i64 (l.getD i default).key]:=by have d:=(c.at0 i a).1;have b:=(c.at0 i a).2;have e:=(List.getElem?_eq_some_iff.1 b).1;rw [r.load (by omega)];grind[XY,List.getElem?_eq_some_iff]
theorem xy{x y:Value}(a:i*2+2<=cs.length)(j:Nat):(lay cs (i*2) [x,y])[j]? =if j=i*2 then some x else if j=i*2+1 then some y else cs[j]? :=by rw [lC (by simpa using a)];grind
theorem eX.set(c:eX cs cap l)(d:i<l.length)(x:Hd):eX (lay cs (i*2) [.int .i64 x.id,.int .i64 x.key]) cap (l.set i x):=by
 have f:=c.len;have hle:=c.le;have a:i*2+2<=cs.length:=by omega
 refine⟨by grind[qD],by grind,fun j b=>?_⟩;rw [Xh]at b;rw [xy a,xy a,rf];by_cases e:i=j
 . grind
 . rw [if_neg (by omega),if_neg (by omega),if_neg (by omega),if_neg (by omega),if_neg (by omega)];exact c.at0 j b
theorem eX.setKey(c:eX cs cap l)(a:i<l.length)(k:Int):eX (lay cs (i*2+1) [.int .i64 k]) cap (l.set i ⟨(l.getD i default).id,k⟩):=by
 have d:=c.len;have hle:=c.le;have e:lay cs (i*2+1) [.int .i64 k]=lay cs (i*2) [.int .i64 (l.getD i default).id,.int .i64 k]:=by
  refine Xw fun j=>?_;rw [xy (by omega),lC (by simp;omega)];simp only [List.length_cons,List.length_nil];by_cases b:j=i*2
  . subst b;rw [if_neg (by omega),if_pos rfl];exact(c.at0 i a).1
  grind
 rw [e];exact c.set a ⟨(l.getD i default).id,k⟩
end
theorem set_sw(l:List Hd)(i k:Nat):(l.set i (l.getD k default)).set k (l.getD i default)=sw l i k:=rfl
theorem mq.inj{f:Int->Option Value}{l:List Hd}(h:mq f l)(a:i<l.length)(b:j<l.length)(e:(l.getD i default).id=(l.getD j default).id):i=j:=by have c:=h.1 i a;have d:=h.1 j b;grind
theorem mq.swap{f:Int->Option Value}{l:List Hd}(h:mq f l)(a:i<l.length)(c:k<l.length):
 mq (dS (dS f ((sw l i k).getD i default).id (some (.int .i64 i))) ((sw l i k).getD k default).id (some (.int .i64 k))) (sw l i k):=by
 have o:=jI l a c i;have p:=jI l a c k;rw [if_pos rfl]at p;refine⟨fun j b=>?_,fun x v n=>?_⟩
 . rw [i6]at b;have d:=jI l a c j;unfold dS;by_cases g:j=k
   . grind
   . rw [if_neg g]at d;by_cases m:j=i
     . subst m;rw [if_neg,if_pos rfl];rw [if_neg g,if_pos rfl]at o;rw [o,p];intro e;exact g (h.inj c a (by omega)).symm
     . rw [if_neg m]at d;rw [if_neg,if_neg]
       . rw [d];exact h.1 j b
       . rw [d,o];intro e
         split at e
         . exact m (h.inj b a (by omega))
         . rename_i q;rw [if_pos rfl]at e;exact g (h.inj b c (by omega))
       . rw [d,p];intro e;exact m (h.inj b a (by omega))
 . unfold dS at n;by_cases g:x=((sw l i k).getD k default).id
   . grind[i6]
   . rw [if_neg g]at n;by_cases m:x=((sw l i k).getD i default).id
     . grind[i6]
     . rw [if_neg m]at n;obtain⟨j,b,e⟩:=h.2 x v n;refine⟨j,by rw [i6];exact b,?_⟩;have d:=jI l a c j;grind
structure hZ(h:Hp)(bh bl bm cap:Nat)(n:Int)(l:List Hd):Prop where
 row:Row h bh [.slice (some ⟨bl,0,some 2⟩) l.length cap,.map (some bm),.int .i64 n] 1
 ex: ∃cs es c f,Row h bl cs 1/\h.get bm=some (.map es c)/\eX cs cap l/\dL es c f/\mq f l
 ne:bh≠bl/\bh≠bm/\bl≠bm
theorem hZ.mo{n:Int}{l:List Hd}(r:hZ h e i j cap n l)(g:Mo M h h')(m: ¬M e)(p: ¬M i)(q: ¬M j):hZ h' e i j cap n l:=by obtain⟨s,k,c,f,a,b,d⟩:=r.ex;exact⟨g.has (o:=.row _ 1) r.row m,⟨s,k,c,f,g.has (o:=.row _ 1) a p,g.has (o:=.map k c) b q,d⟩,r.ne⟩
theorem hZ.mo1{a:Nat}{n:Int}{l:List Hd}(r:hZ h a b d cap n l)(g:Mo M h h')(e: ∀c,c=a\/c=b\/c=d-> ¬M c):hZ h' a b d cap n l:=
 r.mo g (e _ (.inl rfl)) (e _ (.inr (.inl rfl))) (e _ (.inr (.inr rfl)))
theorem hZ.lt{h:Hp}(e:OZ h){g i j cap:Nat}{n:Int}{l:List Hd}(r:hZ h g i j cap n l): ∀c,c=g\/c=i\/c=j->c<h.n:=by
 obtain⟨k,m,c,f,a,b,d⟩:=r.ex;rintro c (rfl|rfl|rfl)
 . exact r.row.lt e
 . exact a.lt e
 . exact iu e b
theorem hZ.gr{a:Nat}{n:Int}{l:List Hd}(r:hZ h a b c cap n l)(g:Gr h h'):hZ h' a b c cap n l:=r.mo (M:=NoM) g.fr (fun h=>h) (fun h=>h) (fun h=>h)
theorem St.init2(b:OZ h){o1 o2:Ob}(c:Has h b1 o1)(d:Has h b2 o2)(a:b1≠b2)(m1:M b1)(m2:M b2):St M h h [(b1,o1),(b2,o2)] []:=by refine⟨Mo.refl b,fun p e=>?_,fun _ h=>(by cases h),by simp [keys,a]⟩;grind
theorem St.init3(a:OZ h){b3:Nat}{o1 o2 o3:Ob}(e:Has h b1 o1)(f:Has h b2 o2)(g:Has h b3 o3)(b:b1≠b2)(c:b1≠b3)(d:b2≠b3)(m1:M b1)(m2:M b2)(m3:M b3):St M h h [(b1,o1),(b2,o2),(b3,o3)] []:=by refine⟨Mo.refl a,fun p i=>?_,fun _ h=>(by cases h),by simp [keys,b,c,d]⟩;grind
open Go.Proofs
set_option maxRecDepth 10000
def nw(a b:Int):Int:=if a<b then-1 else if b<a then 1 else 0
theorem BU(b:OZ h0):aO zM 189 [.int .i64 a] h0 (.bool false):=by have S:=Si b;refine aa (n:=6) (rs:=[.tmp 2]) rfl Tryz.e189 rfl rfl rfl (lbt rfl) ?_;simp only [BZ,ab,seval];exact S.gr
theorem nanI_ok(b:OZ h0):aO zM 287 [.int .i64 a] h0 (.bool false):=by have S:=Si b;refine aa (n:=6) (rs:=[.tmp 2]) rfl Tryz.e287 rfl rfl rfl (lbt rfl) ?_;simp only [BZ,ab,seval];exact S.gr
theorem Bh(e:OZ h0){b:Int}:aO zM 111 [.int .i64 a,.int .i64 b] h0 (.int .i64 (nw a b)):=by
 have S:=Si e;unfold nw;refine aa (n:=20) (rs:=[.tmp 4]) rfl Tryz.e111 rfl rfl rfl (lbt rfl) ?_;simp only [BZ,seval];refine ag (BU S.ok) ?_;intro h g;replace S:=S.call g;clear g;simp only [BZ,seval];refine ag (BU S.ok) ?_;intro h g;replace S:=S.call g;clear g;by_cases c:a<b
 . simp only [BZ,ab,c,seval];exact S.gr
 . by_cases d:b<a
   . simp only [BZ,ab,c,d,seval];exact S.gr
   . simp only [BZ,ab,c,d,seval];exact S.gr
theorem cmpInt_ok(e:OZ h0){b:Int}:aO zM 283 [.int .i64 a,.int .i64 b] h0 (.int .i64 (nw a b)):=by
 have S:=Si e;unfold nw;refine aa (n:=20) (rs:=[.tmp 4]) rfl Tryz.e283 rfl rfl rfl (lbt rfl) ?_;simp only [BZ,seval];refine ag (nanI_ok S.ok) ?_;intro h g;replace S:=S.call g;clear g;simp only [BZ,seval];refine ag (nanI_ok S.ok) ?_;intro h g;replace S:=S.call g;clear g;by_cases c:a<b
 . simp only [BZ,ab,c,seval];exact S.gr
 . by_cases d:b<a
   . simp only [BZ,ab,c,d,seval];exact S.gr
   . simp only [BZ,ab,c,d,seval];exact S.gr
theorem or2_ok(p:OZ h0){v:Value}{b:Int}(g:az h0 1 (encI .i64) v [a,b]):aO zM 282 [v] h0 (.int .i64 (if a=0 then b else a)):=by
 have S:=Si p;obtain⟨h,j,q,e⟩:=g.ix (kd:=.i64) (bO .i64) (i:=0) (by simp);obtain⟨k,l,r,f⟩:=g.ix (kd:=.i64) (bO .i64) (i:=1) (by simp);have c:mQ (some 1) v (.int .i64 0)=some (.pointer (some ⟨h,j,none⟩)):=q;have d:mQ (some 1) v (.int .i64 1)=some (.pointer (some ⟨k,l,none⟩)):=r;replace e:h0.load h j 1=some [.int .i64 a]:=e;replace f:h0.load k l 1=some [.int .i64 b]:=f;have s:an .i64 1=1:=rfl;have t:an .i64 2=2:=rfl;refine aa (n:=18) (rs:=[.tmp 2]) rfl Tryz.e282 rfl rfl rfl (lbt rfl) ?_;simp only [BZ,Xc,g.lenq,seval];rw [cD];by_cases m:a=0
 . simp only [BZ,c,e,m,s,seval];rw [cD];by_cases o:b=0
   . simp only [BZ,d,f,o,t,seval];rw [cD];simp only [BZ,ab,seval];exact S.gr
   . simp only [BZ,ab,d,f,o,seval];exact S.gr
 . simp only [BZ,ab,c,e,m,seval];exact S.gr
theorem B8(t:OZ h0){w B:Nat}{n:Int}{l:List Hd}(R:hZ h0 u w B cap n l)(r:i<l.length)(s:k<l.length):
 aO zM 273 [ptrTo u,.int .i64 i,.int .i64 k] h0 (.bool (decide (hlt (l.getD i default) (l.getD k default)))):=by
 have S:=Si t;obtain⟨F,G,c,f,d,H,C,I,J⟩:=R.ex;have a:=R.row.load1 (o:=0) rfl;have e:=C.ld0 d r;have j:=C.ld1 d r;have m:=C.ld0 d s;have p:=C.ld1 d s;refine aa (n:=44) (rs:=[.tmp 6]) rfl Tryz.e273 rfl rfl rfl (lbt rfl) ?_;simp only [BZ];refine ao (av rfl) (q:=17179869184) (ps:=[(16,32),(16,28),(16,24),(16,20)]) (by kernel_rfl) ?_;simp only [BZ,cls,a,r,s,j,p,seval];refine bz (Bh S.ok) ?_;intro h g;replace S:=S.call g;replace a:=g.load a;replace e:=g.load e;replace j:=g.load j;replace m:=g.load m;replace p:=g.load p;have x:leaves _ _ w=true:=am g (d.lt t);have y:leaves _ _ u=true:=am g (R.row.lt t);clear g;simp only [BZ,cls,a,r,s,e,m,seval];refine bz (cmpInt_ok S.ok) ?_;intro K g;replace S:=S.call g;replace a:=g.load a;replace e:=g.load e;replace j:=g.load j;replace m:=g.load m;replace p:=g.load p;clear g;simp only [BZ,cls,seval];refine df (ce (by exact Tryz.t41.1) (by exact XO) (by decide) (by rfl)) S ?_;clear S;intro h v S z A;simp only [LC,bH,cg,ae,Xx,Xo,Xn,XC,seval]at S;simp only [BZ,cls,seval];have D:az h 1 (encI .i64) (.slice (some ⟨v,0,none⟩) 2 2) [nw (l.getD i default).key (l.getD k default).key,nw (l.getD i default).id (l.getD k default).id]:=.inr ⟨v,0,none,2,rfl,XD _,S.lds (b:=v) (o:=0) (n:=2*1) m0 (lbt rfl)⟩;refine bz (or2_ok S.ok D) ?_;intro L g;replace S:=S.call g;clear g;simp only [BZ,cls,ab,seval];refine⟨by simp only [aJ,aR,aH,aT,aI,ne_eq,not_false_eq_true,aY,bC,aQ,aN,bF,bW,aD,XW,ah,au x,au y,ar x,ar y,seval],?_⟩;have E:decide ((if nw (l.getD i default).key (l.getD k default).key=0 then nw (l.getD i default).id (l.getD k default).id else nw (l.getD i default).key (l.getD k default).key)<0)=decide (hlt (l.getD i default) (l.getD k default)):=by
  congr 1;rw [eq_iff_iff];unfold nw hlt
  repeat' split
  all_goals omega
 exact⟨by rw [E],S.gr⟩
theorem v8(Z:OZ h0){g:Nat}{n:Int}{l:List Hd}(R:hZ h0 u d g cap n l)(t:i<l.length)(p:k<l.length):
 Ret zM 250 [ptrTo u,.int .i64 i,.int .i64 k] h0 fun v h'=>Mo (fun c=>c=d\/c=g) h0 h'/\hZ h' u d g cap n (sw l i k):=by
 obtain⟨V,es,c,f,F,hm,C,MI,IF⟩:=R.ex;have S:=St.init2 (M:=fun c=>c=d\/c=g) Z (o1:=.row V 1) (o2:=.map es c) F hm R.ne.2.2 (.inl rfl) (.inr rfl);have E: ¬(u=d\/u=g):=fun h=>h.elim R.ne.1 R.ne.2.1;have G:=R.row.load1 (o:=0) rfl;have r1:=R.row.load1 (o:=1) rfl;have i2:=C.ld2 F t;have k2:=C.ld2 F p;have W:=C.len;have ad:=C.le;refine aa (n:=62) (rs:=[]) rfl Tryz.e250 rfl rfl rfl (lbt rfl) ?_;simp only [BZ];refine ao (av rfl) (q:=0) (ps:=[]) (by kernel_rfl) ?_;simp only [BZ,cls,G,t,p,i2,k2,seval];refine cM (S.store (i:=0) rfl Tryz.t330.2.1 (by intro x e;cases e) rfl rfl (by omega) ono) ?_;clear S;rintro h ⟨S,r⟩;clear r;have H:=C.set t (l.getD k default);simp only [LC,ae]at S;have j:=S.old G E;simp only [BZ,cls,p,seval];generalize lay V (i*2) _=I at S H;have af:=H.len;refine cM (S.store (i:=0) (off:=k*2) rfl Tryz.t330.2.1 (by intro x e;cases e) rfl rfl (by omega) ono) ?_;clear S;rintro h ⟨S,r⟩;clear r;have y:=H.set (i:=k) (by rw [Xh];exact p) (l.getD i default);simp only [LC,ae]at S;generalize lay I (k*2) _=s at S y;rw [set_sw]at y;clear j;have j:=S.old G E;have A:=S.old r1 E;have J:i<(sw l i k).length:=by rw [i6];exact t
 have K:k<(sw l i k).length:=by rw [i6];exact p
 have X:=y.ld0 (S.row m0) J;have Y:=y.ld0 (S.row m0) K;simp only [BZ,seval];refine ao (av rfl) (q:=0) (ps:=[]) (by kernel_rfl) ?_;simp only [BZ,cls,j,A,t,p,X,Y,seval];refine mj (P:=fun h' v=> ∃n a m,v=.tuple #[(f ((sw l i k).getD i default).id).getD (.int .i64 0),.int .i64 (Yi n)]/\St (fun c=>c=d\/c=g) h0 h' [(d,.row s 1),(g,.map a m)] []/\ ∀w,∃b,jy n w a=some b/\dL b m (dS f ((sw l i k).getD i default).id (some w))) ?_ ?_
 . obtain⟨h',n,L,_,a,m,_,e4,e5⟩:=S.mentI (i:=1) (x:=(((sw l i k).getD i default).id:Int)) rfl Tryz.t230.1 Tryz.t3.1 (z:=.int .i64 0) (by kernel_rfl) MI;exact⟨h',_,L,n,a,m,rfl,e4,e5⟩
 clear S X Y j A;rintro h v ⟨s1,al,c1,rfl,S,N⟩;obtain⟨b,O,Q⟩:=N (.int .i64 i);simp only [BZ,cls,X8,seval];refine cM (S.mstoreI (i:=1) rfl O) ?_;clear S;rintro h ⟨r,S⟩;clear r;simp only [LC]at S;simp only [BZ,cls,seval];refine mj (P:=fun h' v=> ∃n a m,v=.tuple #[(dS f ((sw l i k).getD i default).id (some (.int .i64 i)) ((sw l i k).getD k default).id).getD (.int .i64 0),.int .i64 (Yi n)]/\St (fun c=>c=d\/c=g) h0 h' [(d,.row s 1),(g,.map a m)] []/\ ∀w,∃b,jy n w a=some b/\dL b m (dS (dS f ((sw l i k).getD i default).id (some (.int .i64 i))) ((sw l i k).getD k default).id (some w))) ?_ ?_
 . obtain⟨h',n,L,_,a,m,_,e4,e5⟩:=S.mentI (i:=1) (x:=(((sw l i k).getD k default).id:Int)) rfl Tryz.t230.1 Tryz.t3.1 (z:=.int .i64 0) (by kernel_rfl) Q;exact⟨h',_,L,n,a,m,rfl,e4,e5⟩
 clear S;rintro h v ⟨s2,ax,c3,rfl,S,B⟩;obtain⟨T,D,U⟩:=B (.int .i64 k);simp only [BZ,cls,X8,seval];refine cM (S.mstoreI (i:=1) rfl D) ?_;clear S;rintro h ⟨r,S⟩;clear r;simp only [LC]at S;simp only [BZ,seval];refine⟨S.fr,?_,⟨s,T,c3,_,S.row m0,(S.own _ m1).2,y,U,IF.swap t p⟩,R.ne⟩;rw [i6];exact S.fr.has (o:=.row _ 1) R.row E
theorem up_ok(t:OZ h0){n:Int}{l:List Hd}(R:hZ h0 b d e cap n l)(r:i<l.length)(x:l.length<1000000)(U:tB l i):
 Ret zM 253 [ptrTo b,.int .i64 i] h0 fun v h'=>Mo (fun c=>c=d\/c=e) h0 h'/\ ∃l',hZ h' b d e cap n l'/\l'.Perm l/\oJ l':=by
 refine aa (n:=23) (rs:=[]) rfl Tryz.e253 rfl rfl rfl (lbt rfl) ?_;simp only [BZ];refine aW (fun(i:Nat) m h=>i<l.length/\Mo (fun c=>c=d\/c=e) h0 h/\ ∃l',hZ h b d e cap n l'/\l'.Perm l/\tB l' i/\m 0=ptrTo b/\m 1=.int .i64 i) (fun i=>i) ?_ i _ _ ?_
 . intro i u m h ⟨r,a,l',R,pm,U,r0,r1⟩;have s:=pm.length_eq;by_cases o:i=0
   . subst o;simp only [BZ,Xc,r1,seval];exact⟨a,l',R,pm,up_done U (.inl rfl)⟩
   . have w:(0:Int)<(i:Int):=(by omega);have p:an .i64 ((i:Int)-1)=((i-1:Nat):Int):=(by rw [wrap64]<;>omega);have q:an .i64 (((i-1:Nat):Int).tdiv 4)=(((i-1)/4:Nat):Int):=(by rw [Int.tdiv_eq_ediv_of_nonneg (by omega),show(((i-1:Nat):Int)/4)=(((i-1)/4:Nat):Int) by omega,wrap64]<;>omega);simp only [BZ,r0,r1,w,p,q,mL (n:=4) (by decide),seval];refine ag (B8 a.ok R (i:=i) (k:=(i-1)/4) (by omega) (by omega)) ?_;intro h g;replace R:=R.gr g;replace a:=a.trans (M':=NoM) g.fr (fun _ h=>h.elim);clear g;by_cases j:hlt (l'.getD i default) (l'.getD ((i-1)/4) default)
     . simp only [BZ,r0,r1,p,q,mL (n:=4) (by decide),j,seval];refine step_ret (v8 a.ok R (i:=i) (k:=(i-1)/4) (by omega) (by omega)) ?_;rintro v h ⟨f,R⟩;replace a:=a.trans f (fun _ h=>.inl h);simp only [BZ,r1,p,q,mL (n:=4) (by decide),seval];exact u ((i-1)/4) _ _ (by omega) ⟨by omega,a,_,R,(vu l' (by omega) (by omega)).trans pm,up_step (by omega) U (by omega) j,by simp [aB,r0,ah]⟩
     . simp only [BZ,mL (n:=4) (by decide),j,seval];exact⟨a,l',R,pm,up_done U (.inr (yV j))⟩
 . exact⟨r,Mo.refl t,l,R,.refl _,U,by simp [cG,ah],by simp [cG,dr]⟩
theorem St.monoM{L:List (Nat×Ob)}{G:List GL}(S:St NoM h0 h L G):St M h0 h L G:=
 ⟨S.fr.mono (fun _ h=>h.elim),fun p a=>⟨(S.own p a).1.imp (fun h=>h) (fun h=>h.elim),(S.own p a).2⟩,fun p a=>⟨(S.gown p a).1,fun b c=>((S.gown p a).2 b c).imp (fun h=>h) (fun h=>h.elim)⟩,S.apart⟩
theorem below_ok(d:OZ h0):Ret zM 274 [ptrTo c,.int .i64 i] h0 fun v h'=>Gr h0 h'/\ ∃b1 b2,v=.func (.func 284) #[] #[ptrTo b1,ptrTo b2]/\h0.n<=b1/\h0.n<=b2/\h'.load b1 0 1=some [.int .i64 i]/\h'.load b2 0 1=some [ptrTo c]:=by have S:=Si d;refine aa (n:=6) (rs:=[.tmp 4]) rfl Tryz.e274 rfl rfl rfl (lbt rfl) ?_;simp only [BZ,seval];refine ac (bJ (by exact bD)) S ?_;clear S;intro h b2 S a;simp only [BZ,if_false,seval];refine ac (bJ (by exact aZ)) S ?_;clear S;intro h b1 S b;simp only [BZ,ab,seval];exact⟨S.gr,b1,b2,rfl,b,a,S.ld m0 rfl,S.ld m1 rfl⟩
theorem DV(b:OZ h0){p:Addr}(e:h0.load b1 0 1=some [.int .i64 i])(q:h0.load b2 0 1=some [ptrTo k])(z:h0.load k 0 1=some [.slice (some p) n cap])(H:n<1000000)(I:i<1000000):
 Iter zM 284 [] [ptrTo b1,ptrTo b2] h0 (fun c=>c=b1\/c=b2\/c=k) ((XJ (min 4 (n-(4*i+1)))).map fun j=>[.int .i64 ((4*i+1+j:Nat):Int)]):=by
 refine vr fun A J Z Y h F s l=>?_;refine enter (n:=28) (rs:=[]) rfl Tryz.e284 rfl rfl rfl (lbt rfl) ?_;have d:=s.load b e (.inl rfl);have m:an .i64 (4*(i:Int))=((4*i:Nat):Int):=by rw [wrap64]<;>omega
 have B:an .i64 (((4*i:Nat):Int)+1)=((4*i+1:Nat):Int):=by rw [wrap64]<;>omega
 have r:an .i64 (((4*i:Nat):Int)+4)=((4*i+4:Nat):Int):=by rw [wrap64]<;>omega
 simp only [BZ,d,m,B,seval];refine aW (fun(j:Nat) f h=>j<=min 4 (n-(4*i+1))/\ ∃F,ItS h0 (fun c=>c=b1\/c=b2\/c=k) h F/\J j h F/\f 0=.func (.yield A) #[] #[]/\f 1=ptrTo b1/\f 2=ptrTo b2/\f 4=.int .i64 ((4*i+1+j:Nat):Int)) (fun j=>min 4 (n-(4*i+1))-j) ?_ 0 _ _ ?_
 . clear d;intro j C f h ⟨hjm,F,s,l,r0,r1,r2,r4⟩;have d:=s.load b e (.inl rfl);have u:=s.load b q (.inr (.inl rfl));have x:=s.load b z (.inr (.inr rfl));by_cases hlt:j<min 4 (n-(4*i+1))
   . have o:((4*i+1+j:Nat):Int)<=((4*i+4:Nat):Int):=(by omega);have t:4*i+1+j<n:=(by omega);have w:an .i64 (((4*i+1+j:Nat):Int)+1)=((4*i+1+(j+1):Nat):Int):=(by rw [wrap64]<;>omega);simp only [BZ,r0,r1,r2,r4,d,u,x,m,r,o,t,aF,seval];refine dg Y s l (i:=j) (by rw [Xp,Yd hlt];rfl) ?_ ?_ ?_
     . intro y D a E _ _;simp only [BZ,r4,w,seval];exact C (j+1) _ _ (by omega) ⟨by omega,D,E,a,by simp [aB,r0,r1,ah,r2]⟩
     . intro y a _;simp only [BZ,seval];exact ie rfl ⟨rfl,.inr (.inl ⟨_,rfl,a⟩)⟩
     . intro v y a;simp only [BZ];exact eH (cd ⟨rfl,.inr (.inr ⟨_,rfl,a⟩)⟩)
   . have G:j=min 4 (n-(4*i+1)):=(by omega);have g:YQ J Z (min 4 (n-(4*i+1))) (.ret (ab [])) none h:=⟨rfl,.inl ⟨_,F,rfl,by rw [<-G];exact l⟩⟩;by_cases o:((4*i+1+j:Nat):Int)<=((4*i+4:Nat):Int)
     . have t: ¬4*i+1+j<n:=(by omega);simp only [BZ,r1,r2,r4,d,u,x,m,r,o,t,aF,seval];exact cy (cd ⟨rfl,_,rfl,by simpa using g⟩)
     . simp only [BZ,r1,r4,d,m,r,o,seval];exact cy (cd ⟨rfl,_,rfl,by simpa using g⟩)
 . exact⟨by omega,F,s,l,by simp [aB,dh,ah]⟩
theorem down_ok  (ok:OZ h0) {z A:Nat} {n:Int} {l:List Hd} (R:hZ h0 u z A cap n l) {i:Nat} (C:i<l.length\/(l=[]/\i=0)) (hl:l.length<100000) (D:we l i):
 Ret zM 251 [ptrTo u,.int .i64 i] h0 fun v h'=>Mo (fun c=>c=z\/c=A) h0 h'/\ ∃l',hZ h' u z A cap n l'/\l'.Perm l/\oJ l':=by
 have lt:=R.lt ok;have S:=Si ok;have K: ∀{L:List (Nat×Ob)},(∀c∈keys L [],h0.n<=c)-> ∀c,c=u\/c=z\/c=A-> ¬c∈keys L []:=fun H c s hm=>by have:=lt c s;have:=H c hm;omega
 refine aa (n:=27) (rs:=[]) rfl Tryz.e251 rfl rfl rfl (lbt rfl) ?_;simp only [BZ,seval];refine ac aA S ?_;clear S;intro h I S P;simp only [BZ,seval];refine aC (aE S (i:=0) rfl ?_ ?_ ?_ ono) ?_
 . exact(by simp only [FA0])
 . exact(by exact dY)
 . exact Xg (lbt rfl)
 clear S;rintro h ⟨S,Q⟩;clear Q;simp only [LC,ae,lay,Xq,Xr,seval]at S;simp only [BZ];have RR:=R.gr S.gr;replace S:=S.monoM (M:=fun c=>c=z\/c=A);refine rY (fun(i:Nat) ρ d h=> ∃(r:List Nat) (l':List Hd),d=r.map rZ/\St (fun c=>c=z\/c=A) h0 h (dJ r++[(I,.row [.func (.func 273) #[ptrTo u] #[]] 1)]) []/\(∀c∈keys (dJ r++[(I,Ob.row [.func (.func 273) #[ptrTo u] #[]] 1)]) [],h0.n<=c)/\
  hZ h u z A cap n l'/\l'.Perm l/\we l' i/\(i<l.length\/(l=[]/\i=0))/\ρ 0=ptrTo u/\ρ 1=.int .i64 i/\ρ 4=ptrTo I) (fun i=>l.length-i) ?_ i _ _ _ ?_
 . clear S RR R D C i;intro i ih ρ d hS ⟨r,l',hd,S0,H,R,pm,D,C,r0,r1,r4⟩;have aL:=pm.length_eq;have af:i<1000000:=(by rcases C with C|⟨_,C⟩<;>omega);have S:=S0.base;have Rs:=R;have n0:h0.n<=hS.n:=S0.fr.n;simp only [BZ,r1,seval];refine ac aA S ?_;clear S;intro h w S U;simp only [BZ,seval];refine aC (aE S (i:=0) rfl ?_ ?_ ?_ ono) ?_
   . exact(by simp only [FA0])
   . exact(by exact aZ)
   . exact Xg (lbt rfl)
   clear S;rintro h ⟨S,Q⟩;clear Q;simp only [LC,ae,lay,Xq,Xr,seval]at S;simp only [BZ,r0,r1,seval];have gq:=S.fr.n;have a0:=S.key_lt (b:=w) (by simp [keys]);refine step_ret (below_ok S.ok) ?_;intro v h ⟨g,b1,b2,e,n1,n2,q1,q2⟩;replace S:=S.call g;clear g;subst e;simp only [BZ];replace R:=R.mo1 S.fr (K H);have gh:=S.fr.n;refine iz S (g:=284) (a:=#[]) (b:=#[ptrTo b1,ptrTo b2]) (by simp [bF,aB,ah]) rfl rfl ?_;intro h2 E N V a1 a2 g2;have kb: ∀c∈keys (dJ r++[(I,Ob.row [.func (.func 273) #[ptrTo u] #[]] 1)]) [],c<b1/\c<b2:=fun c s=>(by have:=S0.key_lt s;have:=U;omega);generalize hB:dJ r++[(I,Ob.row [.func (.func 273) #[ptrTo u] #[]] 1)]=B at S V S0 H kb;have mf:(I,Ob.row [.func (.func 273) #[ptrTo u] #[]] 1)∈B:=(by rw [<-hB];exact Xl _ m0);obtain⟨X,hX,V⟩: ∃X:fS,X=_/\St (· ∈keys B []) hS h2 ((N,.loop X)::(E,.dfr)::(w,.row [.int .i64 (i:Nat)] 1)::B) []:=⟨_,rfl,V⟩;have R2:=R.gr g2;have ch: ∀j,j<min 4 (l'.length-(4*i+1))->4*i+1+j<l'.length/\(4*i+1+j-1)/4=i:=fun j hj=>⟨by omega,by omega⟩;have hY:Yld zM N (fun j h' F=> ∃m:Nat,St (· ∈keys B []) hS h' ((N,.loop X)::(E,.dfr)::(w,.row [.int .i64 (m:Nat)] 1)::B) []/\F=keys ((N,.loop X)::(E,.dfr)::(w,.row [.int .i64 (m:Nat)] 1)::B) []/\
    (m<l'.length\/(l'=[]/\m=i))/\hle (l'.getD m default) (l'.getD i default)/\(∀q,q<j->hle (l'.getD m default) (l'.getD (4*i+1+q) default))/\(m=i\/(0<m/\(m-1)/4=i/\hlt (l'.getD m default) (l'.getD i default)))) (fun _ _=>False) ((XJ (min 4 (l'.length-(4*i+1)))).map fun j=>[.int .i64 ((4*i+1+j:Nat):Int)]):=by
    refine⟨?_,?_,fun _ _ h=>h.elim,?_⟩
    . rintro j h F ⟨m,S,rfl,_⟩;exact⟨S.ok,fun b t=>S.key_lt t⟩
    . rintro j h F h' ⟨m,S,rfl,k⟩ g;exact⟨m,S.call g,rfl,k⟩
    . rintro j x h F hx ⟨m,S,rfl,G,k2,W,Y⟩;have Z:j<min 4 (l'.length-(4*i+1)):=(by have:=(List.getElem?_eq_some_iff.1 hx).1;simpa using this);rw [Xp,Yd Z]at hx;cases hx;obtain⟨c1,c2⟩:=ch j Z;replace G:=G.resolve_right (by intro e;rw [e.1]at c1;simp at c1);obtain⟨X0,ai⟩: ∃x,x=X:=⟨_,rfl⟩;subst hX;refine iw (S.get m0) (by rw [Tryz.e251];rfl) rfl ?_;have S1:=S;replace S:=S.base;simp only [BZ,seval];refine gC S (i:=0) rfl rfl rfl rfl rfl ?_;clear S;intro h S;simp only [LC]at S;have lf:h.load I 0 1=some [.func (.func 273) #[ptrTo u] #[]]:=S.ld (o:=0) (.tail _ (.tail _ (.tail _ mf))) rfl;simp only [BZ,r4,lf,S.ld (b:=w) (o:=0) m2 rfl,seval];have ak: ∀c∈keys ((N,Ob.loop X0)::(E,.dfr)::(w,.row [.int .i64 (m:Nat)] 1)::B) [],h0.n<=c:=fun c s=>(S1.key_own s).elim (fun h=>by omega) (fun h=>H c h);clear ai;have Rc:hZ h u z A cap n l':=(Rs.mo1 S1.fr (K H)).mo1 S.fr (K ak);refine ag (B8 S.ok Rc c1 G) ?_;intro h g;replace S:=S.call g;clear g Rc lf;by_cases O:hlt (l'.getD (4*i+1+j) default) (l'.getD m default)
      . simp only [BZ,O,seval];refine aC (aE S (i:=2) rfl ?_ ?_ ?_ ono) ?_
        . exact(by simp only [FA0])
        . exact(by exact aZ)
        . exact Xg (lbt rfl)
        clear S;rintro h ⟨S,Q⟩;clear Q;simp only [LC,ae,lay,Xq,Xr,seval]at S;simp only [BZ];refine dV S (i:=0) rfl ?_;clear S;intro h S;simp only [LC]at S;refine .inl ⟨rfl,_,⟨4*i+1+j,S1.rebase S,rfl,.inl c1,mi (uK O) k2,fun q hq=>?_,.inr ⟨by omega,c2,?_⟩⟩,S.fr,S.key_new⟩
        . by_cases e:q=j
          . subst e;exact xu _
          . exact mi (uK O) (W q (by omega))
        . rcases Y with rfl|⟨_,_,Y⟩
          . exact O
          . unfold hlt at*;omega
      . simp only [BZ,O,seval];refine dV S (i:=0) rfl ?_;clear S;intro h S;simp only [LC]at S;refine .inl ⟨rfl,_,⟨m,S1.rebase S,rfl,.inl G,k2,fun q hq=>?_,Y⟩,S.fr,S.key_new⟩;by_cases e:q=j
        . subst e;exact yV O
        . exact W q (by omega)
   refine cK (BJ (DV S.ok q1 q2 (R.row.load1 (o:=0) rfl) (by omega) af) hY (h:=h2) (F:=keys ((N,.loop X)::(E,.dfr)::(w,.row [.int .i64 (i:Nat)] 1)::B) []) g2.fr (fun b t hlt=>?_) ⟨i,V,rfl,?_,xu _,fun q hq=>by omega,.inl rfl⟩) fun o rc h' y=>jx y ?_
   . have e1:=V.key_own t;rintro(rfl|rfl|rfl)
     . rcases List.mem_cons.1 t with e|t
       . omega
       . rcases List.mem_cons.1 t with e|t
         . omega
         . rcases List.mem_cons.1 t with e|t
           . simp only []at e;omega
           . have:=(kb _ t).1;omega
     . rcases List.mem_cons.1 t with e|t
       . omega
       . rcases List.mem_cons.1 t with e|t
         . omega
         . rcases List.mem_cons.1 t with e|t
           . simp only []at e;omega
           . have:=(kb _ t).2;omega
     . have:=lt b (.inl rfl);rcases e1 with e1|e1
       . omega
       . have:=H b e1;omega
   . rcases C with C|⟨C,_⟩
     . exact .inl (by omega)
     . right;rw [C]at pm;exact⟨pm.eq_nil,rfl⟩
   . rintro F ⟨m,T,rfl,G,k2,W,Y⟩;rw [X6,List.length_range]at W;subst hX;refine⟨_,T.get m0,Nat.zero_ne_one,?_⟩;replace T:=T.dead;show Run _ _ _ _ _ _ _ _;have p:=T.ld (b:=w) (o:=0) m1 rfl;have Rc:hZ _ u z A cap n l':=Rs.mo1 T.fr (K H);have km: ∀q,0<q->q<l'.length->(q-1)/4=i->hle (l'.getD m default) (l'.getD q default):=fun q q0 ql qe=>(by have:=W (q-(4*i+1)) (by omega);rwa [show 4*i+1+(q-(4*i+1))=q by omega]at this);have T0:=S0.rebase T;have ad: ∀c∈keys ((E,Ob.dfr)::(w,.row [.int .i64 (m:Nat)] 1)::B) [],h0.n<=c:=fun c s=>(T.key_own s).elim (fun h=>by omega) (fun h=>H c h);subst hd hB;have T2:=T0.sub (L':=dJ (E::r)++[(I,Ob.row [.func (.func 273) #[ptrTo u] #[]] 1)]) (G':=[]) (List.Sublist.cons_cons _ (List.sublist_cons_self _ _)) (List.Sublist.refl _);have J: ∀c∈keys (dJ (E::r)++[(I,Ob.row [.func (.func 273) #[ptrTo u] #[]] 1)]) [],h0.n<=c:=fun c s=>ad c (by simp only [keys,XV,XG,dJ,Xv,List.cons_append,XN]at s⊢;rcases s with h|h;exact .inl h;exact .inr (.inr h));by_cases e:m=i
     . subst e;simp only [BZ,r1,p,seval];have T3:=T2.base;refine dq (ij (E::r) _ T3 fun h' T4=>⟨rfl,_,rfl,?_⟩);refine⟨(T2.fr.trans T4.fr fun c s=>(T2.key_own s).symm),l',Rc.mo1 T4.fr (K J),pm,dn_done D km⟩
     . have e': ¬((m:Int)=(i:Int)):=(by omega);obtain⟨b0,be,al⟩:=Y.resolve_left e;replace G:=G.resolve_right (fun h=>e h.2);simp only [BZ,r0,r1,p,e',seval];refine step_ret (v8 T2.ok Rc (i:=i) (k:=m) (by omega) G) ?_;rintro v h ⟨f,Rn⟩;have ax:=K J;have T3:=T2.step f (fun c s=>.inl s) (fun c s hM=>ax c (.inr hM) s);have f2:Mo (fun c=>c=z\/c=A) _ h:=f;have ay:h.load w 0 1=some [.int .i64 (m:Nat)]:=(by have a3:h0.n<=w:=ad w (.tail _ m0);have:=f.get w (bA f.ok0 p) (fun hM=>by have:=lt w (.inr hM);omega);unfold Hp.load at p⊢;rw [this];exact p);simp only [BZ,ay,seval];exact ih m _ _ _ (by omega) ⟨E::r,_,rfl,T3,J,Rn,(vu l' (by omega) G).trans pm,dn_step D b0 G be al km,.inl (by omega),by simp [aB,r0,ah,r4]⟩
 . exact⟨[],l,rfl,S,fun c s=>by simp [keys,dJ]at s;subst s;exact P,RR,.refl _,D,C,by simp [aB,cG,ah,dr]⟩
theorem mq.push{f:Int->Option Value}{l:List Hd}(h:mq f l){x:Hd}(c:x.id∉l.map Hd.id):mq (dS f x.id (some (.int .i64 l.length))) (l++[x]):=by
 refine⟨fun i b=>?_,fun y v a=>?_⟩
 . unfold dS;simp at b;by_cases e:i=l.length
   . grind
   . rw [pN l _ (by omega),if_neg ?_]
     . exact h.1 i (by omega)
     grind
 . unfold dS at a;by_cases e:y=x.id
   . refine⟨l.length,by simp,?_⟩;grind
   . rw [if_neg e]at a;obtain⟨i,b,d⟩:=h.2 y v a;exact⟨i,by simp;omega,by grind⟩
theorem mq.cut{f:Int->Option Value}{l:List Hd}(h:mq f l)(c:l.length=m+1):mq (dS f (l.getD m default).id none) (l.take m):=by
 refine⟨fun i b=>?_,fun y v a=>?_⟩
 . rw [Xy]at b;rw [getD_take l (by omega)];unfold dS;rw [if_neg ?_]
   . exact h.1 i (by omega)
   . intro e;have:=h.inj (i:=i) (j:=m) (by omega) (by omega) (by omega);omega
 . unfold dS at a;by_cases e:y=(l.getD m default).id
   . grind
   . rw [if_neg e]at a;obtain⟨i,b,d⟩:=h.2 y v a;have:i≠m:=fun g=>(by grind);exact⟨i,by grind,by grind⟩
theorem mq.setKey{f:Int->Option Value}{l:List Hd}(h:mq f l)(k:Int):mq f (l.set i ⟨(l.getD i default).id,k⟩):=by
 have e: ∀j,((l.set i ⟨(l.getD i default).id,k⟩).getD j default).id=(l.getD j default).id:=fun j=>by grind
 refine⟨fun j a=>?_,fun y v b=>?_⟩
 . rw [e];exact h.1 j (by grind)
 . obtain⟨j,a,c⟩:=h.2 y v b;grind
theorem idxF_nil:mq (fun _=>none) []:=⟨fun i a=>by simp at a,fun x v h=>by cases h⟩
theorem eX.take{cs:List Value}{cap:Nat}{l:List Hd}(c:eX cs cap l)(m:Nat):eX cs cap (l.take m):=
 ⟨c.len,Xk (by grind) c.le,fun i a=>by
  rw [Xy]at a;rw [getD_take l (by omega)];exact c.at0 i (by omega)⟩
theorem eX.push{a:List Value}{cap':Nat}{l:List Hd}(c:eX cs cap l){x:Hd}(d:a.length=cap'*2)(g:l.length<cap')(b: ∀j,j<l.length*2->a[j]? =cs[j]?)(h:a[l.length*2]? =some (.int .i64 x.id)/\a[l.length*2+1]? =some (.int .i64 x.key)):eX a cap' (l++[x]):=by
 refine⟨d,by simp;omega,fun i f=>?_⟩;simp at f;by_cases e:i=l.length
 . grind
 . rw [pN l _ (by omega),b _ (by omega),b _ (by omega)];exact c.at0 i (by omega)
theorem Bk{e:TypeId}{len:Nat}(c:E.und t=some (.slice e))(d:E.sz e=some k)(f:n<=cap):ic E t (.slice (some ⟨b,0,some k⟩) len cap) none (some (.int kd (n:Int))) none=some (.slice (some ⟨b,0,some k⟩) n cap):=by have a: ∀n:Nat,jf (n:Int)=some n:=fun n=>rfl;simp_all[ic,gY,gL,Xi,cond_true,Xj,cond_false,Nat.sub_zero]
section
variable{M:Nat->Prop}{h0 h:Hp}{L:List (Nat×Ob)}{G:List GL}{E:Env}{t tx e:TypeId}{by_:Nat}{zs:List Value}
theorem St.appH{l:List Hd}(S:St M h0 h ((d,.row cs 1)::L) G)(C:eX cs cap l)(F:E.und t=some (.slice e))(H:fu E e by_ 2 zs)(Q:0<by_)(I:by_<=100)(r:ez E tx=some false){x:Hd}(f:aK h 2 z=some (1,nG x))(R:l.length<1000000){ts:List TypeId}:
 ∃h' w,dK E h (t::tx::ts) (.slice (some ⟨d,0,some 2⟩) l.length cap) z=some (h',w)/\ ∃a cap' g,w=.slice (some ⟨a,0,some 2⟩) (l.length+1) cap'/\St M h0 h' ((a,.row g 1)::L) G/\eX g cap' (l++[x])/\(a=d\/h.n<=a):=by
 obtain⟨⟨i,J,rfl,c⟩,K,s⟩:=H;have A:Row h d cs 1:=S.row m0;have B:=C.len;by_cases U:l.length+1<=cap
 . obtain⟨y,V,N⟩:=A.store S.ok ono (o:=l.length*2) (vs:=nG x) (by rw [lV];omega) rfl;refine⟨h.put d y,_,?_,d,cap,_,rfl,S.put (i:=0) rfl N,?_,.inl rfl⟩
   . simp_all[dK,lH,gX,Xi,cond_true,nG,Xo]
   . refine C.push (by grind[qD,lV]) (by omega) (fun j O=>?_) ⟨?_,?_⟩
     . rw [lC (by rw [lV];omega),if_neg (by omega)]
     . rw [lC (by rw [lV];omega),if_pos ⟨XD _,by rw [lV];omega⟩,Yj];rfl
     . rw [lC (by rw [lV];omega),if_pos ⟨by omega,by rw [lV];omega⟩,Nat.add_sub_cancel_left];rfl
 . have D:cap=l.length:=(by have:=C.le;omega);obtain⟨q,W,k,m,P⟩:=A;have u:kZ q cs.length 0 (l.length*2) (nG x)=some (q.pushAll cs.length (nG x),cs.length+2):=(by unfold kZ;rw [show l.length*2=cs.length by omega,Yh,Yh];rfl);have T:=S.dead.new (x:=.cells (q.pushAll cs.length (nG x)) (cs.length+2) e 1) (o:=.row (cs++nG x) 1) (by
    refine⟨q.pushAll cs.length (nG x),e,?_,?_,fun n=>?_⟩
    . rw [Hp.get_new _ _ S.dead.ok,if_pos rfl,XH];rfl
    . rw [XH];exact Tr.sized_pushAll _ m
    grind[Tr.get_pushAll])
   refine⟨_,.slice (some ⟨h.n,0,some 2⟩) (l.length+1) (l.length+1),?_,h.n,l.length+1,_,rfl,T,?_,.inr (XD _)⟩
   . simp only [dK,r,lH,F,J,c,f];unfold gX;have p:XT (l.length+1) cap=false:=by
      cases r:XT (l.length+1) cap with
      |false=>rfl|true=>exact absurd (lbt r) (by omega)
     rw [p];simp only [cond_false];have b:(XT ((l.length+1)*(i.bytes+1)) 70368744177664&&Nat.blt 0 i.bytes)=true:=(by have:(l.length+1)*(i.bytes+1)<=1000000*101:=Nat.mul_le_mul (by omega) (by omega);rw [Xi (by omega)];simp_all);have v:XS zs.length i.size=true:=(by rw [s,c];rfl);rw [b,K];simp only [cond_true,v];unfold pV;simp only [k,c,u];rfl
   . refine C.push (by rw [XH,lV];omega) (by omega) (fun j O=>?_) ⟨?_,?_⟩
     . grind
     . rw [XX (by omega),show l.length*2-cs.length=0 by omega];rfl
     . rw [XX (by omega),show l.length*2+1-cs.length=1 by omega];rfl
theorem St.appH0(S:St M h0 h L G)(n:E.und t=some (.slice e))(p:fu E e by_ 2 zs)(u:0<by_)(q:by_<=100)(r:ez E tx=some false){x:Hd}{m:Value}(d:aK h 2 m=some (1,nG x)){ts:List TypeId}:
 ∃h' w,dK E h (t::tx::ts) (.slice none 0 0) m=some (h',w)/\ ∃b cap' f,w=.slice (some ⟨b,0,some 2⟩) 1 cap'/\St M h0 h' ((b,.row f 1)::L) G/\eX f cap' [x]/\h.n<=b:=by
 obtain⟨⟨i,j,rfl,c⟩,s,k⟩:=p;have T:=S.new (x:=.cells (Tr.ofList (nG x)) 2 e 1) (o:=.row (nG x) 1) (qN S.ok (nG x) e 1);refine⟨_,.slice (some ⟨h.n,0,some 2⟩) 1 1,?_,h.n,1,_,rfl,T,⟨rfl,by simp,fun i j=>?_⟩,XD _⟩
 . simp only [dK,r,lH,n,j,c,d];unfold gX;have g:XT (0+1) 0=false:=rfl;rw [g];simp only [cond_false];have a:(XT ((0+1)*(i.bytes+1)) 70368744177664&&Nat.blt 0 i.bytes)=true:=(by rw [Xi (by omega)];simp_all);have l:XS zs.length i.size=true:=(by rw [k,c];rfl);rw [a,s];simp only [cond_true,l];unfold pV;rw [show XS 0 0=true from rfl,c];rfl
 . have:i=0:=(by simpa using j);subst this;exact⟨rfl,rfl⟩
theorem St.rowS{N:Int}{g:List (Value×Value×Nat)}{l:List Hd}{f:Int->Option Value}(S:St M h0 h [(b,.row cs 1),(i,.row [.slice (some ⟨b,0,some 2⟩) n cap,.map (some d),.int .i64 N] 1),(d,.map g c)] [])(C:eX cs cap l)(j:n=l.length)(k:dL g c f)(m:mq f l):hZ h i b d cap N l:=by subst j;have a:=S.apart;simp only [keys,Xv,Yk,XV,XG,XF,XN,List.not_mem_nil,or_false,not_or]at a;exact⟨S.row m1,⟨cs,g,c,f,S.row m0,(S.own _ m2).2,C,k,m⟩,fun e=>a.1.1 e.symm,a.2.1,a.1.2⟩
end
theorem gJ{b:Bool}{a v:Operand}:cQ ρ b (.store t a v) h h'=(match ρ a with| .pointer (some a)=>some (.blk a.block)|_=>none):=by simp only [cQ,dN,jR,fJ,touch,cond_false];grind
theorem tF{b:Bool}{x:Operand}{ts:Array TypeId}:cQ ρ b (.call ⟨.builtin .len,#[x],ts⟩) h h'=(match ρ x with| .map (some r)=>some (.blk r)| .slice (some a) _ _=>some (.blk a.block)|_=>none):=by simp only [cQ,dN,jR,fJ,touch,cond_false];grind
theorem dn_del{cx:Cx}{Q:gp}{a:List Oper}{q:Nat}{ps:List (Nat×Nat)}{o:Oper}{os:List Oper}{k:List Fr}{l:Loc}{b:Hp->List (Nat×Tch)}{m key:Value}{P:Hp->Prop}(c: ∃h',oq E h t m key=some h'/\P h')
 (d: ∀h',P h'->Run E (lim E) cx Q (.opsD a q ps os (i+1) (b h')::k) .normal (l.put o.dst (.tuple #[])) h'):DN E cx Q a q ps o os i k l b (delR E h t m key):=by
 obtain⟨h',e,f⟩:=c;unfold delR;rw [e];exact d h' f
structure cE(h:Hp)(F:List Nat)(p:Value)(N:Nat)(K:Nat->Option Int):Prop where
 ex: ∃bh bm l,p=ptrTo bh/\oJ l/\i9 l K/\(∀x∈l,x.id<N)/\
  ((l=[]/\F=[bh,bm]/\bh≠bm/\Row h bh [.slice none 0 0,.map (some bm),.int .i64 N] 1/\ ∃es c,h.get bm=some (.map es c)/\dL es c (fun _=>none))\/ ∃bl cap,F=[bh,bl,bm]/\hZ h bh bl bm cap N l)
theorem cE.mo{M:Nat->Prop}{h h':Hp}{F:List Nat}{p:Value}{N:Nat}{K:Nat->Option Int}(a:cE h F p N K)(g:Mo M h h')(d: ∀b∈F,¬M b):cE h' F p N K:=by
 obtain⟨j,m,l,e,n,q,r,s⟩:=a.ex;refine⟨j,m,l,e,n,q,r,?_⟩;rcases s with⟨t,rfl,u,v,i,c,w,x⟩|⟨y,f,rfl,k⟩
 . exact .inl ⟨t,rfl,u,g.has (o:=.row _ 1) v (d _ (by simp)),i,c,g.has (o:=.map i c) w (d _ (by simp)),x⟩
 . exact .inr ⟨y,f,rfl,k.mo g (d _ (by simp)) (d _ (by simp)) (d _ (by simp))⟩
theorem cE.gr(a:cE h F p N K)(g:Gr h h'):cE h' F p N K:=a.mo (M:=NoM) g.fr (fun _ _ h=>h)
theorem cE.lt{h:Hp}(f:OZ h){F:List Nat}{p:Value}{N:Nat}{K:Nat->Option Int}(a:cE h F p N K): ∀b∈F,b<h.n:=by
 obtain⟨n,o,l,e,q,r,s,g⟩:=a.ex;rcases g with⟨t,rfl,u,i,v,c,j,w⟩|⟨x,m,rfl,k⟩
 . intro b d;simp at d;rcases d with rfl|rfl
   . exact i.lt f
   . exact iu f j
 . intro b d;simp at d;exact k.lt f b d
theorem xF{l:List Hd}(h:i9 l K)(a: ∀x∈l,x.id<N):l.length<=N:=by have:=re N (l.map Hd.id) h.1 (fun x b=>by grind);simpa using this
theorem sX(k:OZ h0):Ret zM 195 [.int .i64 N] h0 fun v h'=>Gr h0 h'/\ ∃F,cE h' F v N (fun _=>none)/\ ∀b∈F,h0.n<=b:=by
 have S:=Si k;have l:max (N:Int) 0=(N:Int):=by omega
 refine aa (n:=9) (rs:=[.tmp 2]) rfl Tryz.e195 rfl rfl rfl (lbt rfl) ?_;simp only [BZ];refine ac oa S ?_;clear S;intro h f S a;simp only [BZ,l,seval];refine ac (aV (by intro x e;cases e)) S ?_;clear S;intro h b S d;simp only [ae]at S;simp only [BZ,ab,seval];have g:=S.apart;simp only [keys,Xv,Yk,XV,XG,XF,XN,List.not_mem_nil,or_false]at g;refine⟨S.gr,[b,f],⟨b,f,[],rfl,fun j _ m=>(by simp at m),cont_nil,fun x o=>(by cases o),.inl ⟨rfl,rfl,g.1,S.row m0,[],0,(S.own _ m1).2,nJ⟩⟩,fun c i=>?_⟩;simp at i;rcases i with rfl|rfl
 . exact d
 . exact a
section
variable{h0:Hp}{F:List Nat}{p:Value}{N:Nat}{K:Nat->Option Int}
theorem tX(f:OZ h0)(H:cE h0 F p N K): ∃m:Nat,aO zM 249 [p] h0 (.int .i64 m)/\(m=0↔ ∀v,K v=none):=by
 obtain⟨g,q,l,rfl,r,d,s,h⟩:=H.ex;refine⟨l.length,?_,?_⟩
 . have S:=Si f;obtain⟨a,n,c,m1,m2,b,i⟩: ∃a n c m1 m2,Row h0 g [.slice a n c,m1,m2] 1/\n=l.length:=by
    rcases h with⟨rfl,_,_,b,_⟩|⟨t,j,_,b⟩
    . exact⟨_,_,_,_,_,b,rfl⟩
    . exact⟨_,_,_,_,_,b.row,rfl⟩
   subst i;have k:=b.load1 (o:=0) rfl;refine aa (n:=11) (rs:=[.tmp 2]) rfl Tryz.e249 rfl rfl rfl (lbt rfl) ?_;simp only [BZ,ab,k,seval];exact S.gr
 . constructor
   . intro e;rw [List.length_eq_zero_iff.1 e]at d;exact d.nil
   . intro e;cases l with
     |nil=>rfl| cons x l=>
       have:=(d.2 x.id x.key).2 (by simp);rw [e]at this;cases this
theorem yO (y:OZ h0) (H:cE h0 F p N K) :aO zM 248 [p,.int .i64 v] h0 (.tuple #[.int .i64 ((K v).getD 0),.bool (K v).isSome]):=by
 have S:=Si y;obtain⟨m,a,A⟩:=tX y H;obtain⟨O,P,l,rfl,Q,r,T,I⟩:=H.ex;by_cases b:m=0
 . subst b;have e:=A.1 rfl v;rw [e];refine aa (n:=32) (rs:=[.tmp 4,.tmp 5]) rfl Tryz.e248 rfl rfl rfl (lbt rfl) ?_;simp only [BZ,seval];refine ag (a) ?_;intro h g;replace S:=S.call g;clear g;simp only [BZ,ab,Xc,seval];exact⟨rfl,S.gr⟩
 . have d: ¬((m:Int)=0):=(by omega);rcases I with⟨rfl,_⟩|⟨U,J,_,R⟩
   . exact absurd (A.2 r.nil) b
   . refine aa (n:=32) (rs:=[.tmp 4,.tmp 5]) rfl Tryz.e248 rfl rfl rfl (lbt rfl) ?_;simp only [BZ,seval];refine ag (a) ?_;intro h g;replace S:=S.call g;replace R:=R.gr g;clear g;obtain⟨V,W,c,f,s,t,C,L,B⟩:=R.ex;have M:=R.row.load1 (o:=0) rfl;have D:=R.row.load1 (o:=1) rfl;have q:=nI (x:=(v:Int)) Tryz.t230.1 Tryz.t3.1 (z:=.int .i64 0) (by kernel_rfl) t L;cases E:K v with
     | none=>
       have u:f v=none:=by
        cases hf:f v with
        |none=>rfl| some w=>
          obtain⟨i,j,e⟩:=B.2 v w hf;have:=r.at j;rw [show(l.getD i default).id=v by omega,E]at this;cases this
       rw [u]at q;simp only [BZ,ab,d,D,q,Xz,Xj,seval];exact S.gr
     | some k=>
       obtain⟨i,j,e⟩:=r.idx E;have u:f v=some (.int .i64 i):=(by have:=B.1 i j;rwa [e]at this);rw [u]at q;have G:=C.ld1 s j;rw [e]at G;simp only [BZ,ab,d,M,D,q,Xt,j,G,seval];exact S.gr
theorem pH(ok:OZ h0)(H:cE h0 F p N K)(hv:v<N)(hN:N<=1000)(P:K v=none){k:Int}:
 Ret zM 209 [p,.int .i64 v,.int .i64 k] h0 fun r h'=>Mo (· ∈F) h0 h'/\ ∃F',cE h' F' p N (dp K v (some k))/\ ∀b∈F',b∈F\/h0.n<=b:=by
 obtain⟨a,s,l,rfl,ho,m,hlt,D⟩:=H.ex;have af:=xF m hlt;have c1: ¬((v:Int)<0):=by omega
 have c2: ¬((N:Int)<=(v:Int)):=by omega
 have hn:=m.free P;rcases D with⟨rfl,rfl,T,hr,U,c,g,E⟩|⟨G,u,rfl,R⟩
 . have S:=St.init2 (M:=(· ∈[a,s])) ok (o1:=.row _ 1) (o2:=.map U c) hr g T (by simp) (by simp);have Q:=nI (x:=(v:Int)) Tryz.t230.1 Tryz.t3.1 (z:=.int .i64 0) (by kernel_rfl) g E;refine aa (n:=71) (rs:=[.tmp 6]) rfl Tryz.e209 rfl rfl rfl (lbt rfl) ?_;simp only [BZ,Q,c1,c2,Xz,Xj,S.ld (b:=a) (o:=1) m0 rfl,S.ld (b:=a) (o:=2) m0 rfl,seval];refine ao (av rfl) (q:=0) (ps:=[]) (by kernel_rfl) ?_;simp only [BZ,cls,Xc,S.ld (b:=a) (o:=0) m0 rfl,S.ld (b:=a) (o:=1) m0 rfl,seval];refine cM (S.mputI (i:=1) rfl Tryz.t230.1 Tryz.t3.1 E _) ?_;clear S;rintro h ⟨_,V,c',y,S⟩;simp only [LC]at S;simp only [BZ,S.ld (b:=a) (o:=0) m0 rfl,S.ld (b:=a) (o:=1) m0 rfl,seval];refine ac (ce (by exact Tryz.t321.1) (by exact X9) (by decide) (by rfl)) S ?_;clear S;intro h I S J;simp only [LC,bH,cg,ae,Xx,Xo,Xn,XC,seval]at S;simp only [BZ,S.ld (b:=a) (o:=0) m1 rfl,S.ld (b:=a) (o:=1) m1 rfl,seval];have j:aK h 2 (.slice (some ⟨I,0,none⟩) 1 1)=some (1,nG ⟨v,k⟩):=(by simp only [aK];rw [S.lds (b:=I) (o:=0) (n:=1*2) m0 (lbt rfl)];rfl);replace S:=S.drop1;refine dE (S.appH0 Tryz.t321.1 X9 (by decide) (by decide) Tryz.t321.2.2.2.2.2 j) ?_;clear S j;rintro h w ⟨G,u,cs,rfl,S,C,W⟩;simp only [BZ,seval];refine aC (aE S (i:=1) rfl ?_ ?_ ?_ ono) ?_
   . exact(by simp only [FA0])
   . exact(by exact aU)
   . exact Xg (lbt rfl)
   clear S;rintro h ⟨S,X⟩;clear X;simp only [LC,ae,lay,Xq,Xr,seval]at S;simp only [BZ];refine ao (av rfl) (q:=0) (ps:=[]) (by kernel_rfl) ?_;simp only [BZ,cls,Xc,S.ld (b:=a) (o:=0) m1 rfl,S.ld (b:=a) (o:=1) m1 rfl,seval];have R:hZ h a G s u N ([]++[⟨v,k⟩]):=S.rowS C rfl y (idxF_nil.push hn);have Y:an .i64 0=((0:Nat):Int):=rfl;rw [Y];refine bU (up_ok S.ok R (i:=0) (by simp) (by simp) (Aj ho ⟨v,k⟩)) ?_;have d:=(S.own _ m0).1;rintro r h ⟨f,Z,R',L,A⟩;simp only [BZ,Xc,seval];refine⟨S.fr.trans f (fun c m=>?_),[a,G,s],⟨a,s,Z,rfl,A,(m.push P k).perm L,fun x D=>?_,.inr ⟨G,u,rfl,R'⟩⟩,fun b O=>?_⟩
   . rcases m with rfl|rfl
     . exact d.symm
     . exact .inl (by simp)
   . have:=L.mem_iff.1 D;simp at this;subst this;exact hv
   . simp at O;rcases O with rfl|rfl|rfl
     . exact .inl (by simp)
     . exact d.symm
     . exact .inl (by simp)
 . obtain⟨cs,U,c,f,ad,g,C,E,IF⟩:=R.ex;have S:=St.init3 (M:=(· ∈[a,G,s])) ok (o1:=.row cs 1) (o2:=.row _ 1) (o3:=.map U c) ad R.row g R.ne.1.symm R.ne.2.2 R.ne.2.1 (by simp) (by simp) (by simp);have Q:=nI (x:=(v:Int)) Tryz.t230.1 Tryz.t3.1 (z:=.int .i64 0) (by kernel_rfl) g E;have fv:f v=none:=by
    cases hf:f v with
    |none=>rfl| some w=>
      obtain⟨i,hi,e⟩:=IF.2 v w hf;have:=m.at hi;rw [show(l.getD i default).id=v by omega,P]at this;cases this
   rw [fv]at Q;refine aa (n:=71) (rs:=[.tmp 6]) rfl Tryz.e209 rfl rfl rfl (lbt rfl) ?_;simp only [BZ,Q,c1,c2,Xz,Xj,S.ld (b:=a) (o:=1) m1 rfl,S.ld (b:=a) (o:=2) m1 rfl,seval];refine ao (av rfl) (q:=0) (ps:=[]) (by kernel_rfl) ?_;simp only [BZ,cls,S.ld (b:=a) (o:=0) m1 rfl,S.ld (b:=a) (o:=1) m1 rfl,seval];refine cM (S.mputI (i:=2) rfl Tryz.t230.1 Tryz.t3.1 E _) ?_;clear S;rintro h ⟨_,V,c',y,S⟩;simp only [LC]at S;simp only [BZ,S.ld (b:=a) (o:=0) m1 rfl,S.ld (b:=a) (o:=1) m1 rfl,seval];refine ac (ce (by exact Tryz.t321.1) (by exact X9) (by decide) (by rfl)) S ?_;clear S;intro h I S J;simp only [LC,bH,cg,ae,Xx,Xo,Xn,XC,seval]at S;simp only [BZ,S.ld (b:=a) (o:=0) m2 rfl,S.ld (b:=a) (o:=1) m2 rfl,seval];have j:aK h 2 (.slice (some ⟨I,0,none⟩) 1 1)=some (1,nG ⟨v,k⟩):=(by simp only [aK];rw [S.lds (b:=I) (o:=0) (n:=1*2) m0 (lbt rfl)];rfl);replace S:=S.drop1;refine dE (S.appH C Tryz.t321.1 X9 (by decide) (by decide) Tryz.t321.2.2.2.2.2 j (by omega)) ?_;clear S j;rintro h w ⟨B,t,ai,rfl,S,C',W⟩;simp only [BZ,seval];refine aC (aE S (i:=1) rfl ?_ ?_ ?_ ono) ?_
   . exact(by simp only [FA0])
   . exact(by exact aU)
   . exact Xg (lbt rfl)
   clear S;rintro h ⟨S,X⟩;clear X;simp only [LC,ae,lay,Xq,Xr,seval]at S;simp only [BZ];refine ao (av rfl) (q:=0) (ps:=[]) (by kernel_rfl) ?_;have Y:an .i64 (((l.length+1:Nat):Int)-1)=((l.length:Nat):Int):=(by rw [wrap64]<;>omega);simp only [BZ,cls,Y,S.ld (b:=a) (o:=0) m1 rfl,S.ld (b:=a) (o:=1) m1 rfl,seval];have R:hZ h a B s t N (l++[⟨v,k⟩]):=S.rowS C' (by simp) y (IF.push hn);refine bU (up_ok S.ok R (i:=l.length) (by simp) (by simp;omega) (Aj ho ⟨v,k⟩)) ?_;have d:=(S.own _ m0).1;rintro r h ⟨f,Z,R',L,A⟩;simp only [BZ,seval];refine⟨S.fr.trans f (fun c m=>?_),[a,B,s],⟨a,s,Z,rfl,A,(m.push P k).perm L,fun x D=>?_,.inr ⟨B,t,rfl,R'⟩⟩,fun b O=>?_⟩
   . rcases m with rfl|rfl
     . exact d.symm
     . exact .inl (by simp)
   . have:=L.mem_iff.1 D;simp at this;rcases this with h|rfl
     . exact hlt x h
     . exact hv
   . simp at O;rcases O with rfl|rfl|rfl
     . exact .inl (by simp)
     . exact d.symm
     . exact .inl (by simp)
theorem qT(T:OZ h0)(H:cE h0 F p N K)(hN:N<=1000){t k:Int}(U:K v=some t)(hle:k<=t):
 Ret zM 208 [p,.int .i64 v,.int .i64 k] h0 fun r h'=>Mo (· ∈F) h0 h'/\cE h' F p N (dp K v (some k)):=by
 obtain⟨d,w,l,rfl,V,g,hlt,y⟩:=H.ex;have W:=xF g hlt;obtain⟨i,a,u⟩:=g.idx U;have X:v<N:=by have:=hlt (l.getD i default) (by rw [Xa,Xb a];exact XA a);rwa [u]at this
 have Y: ¬((v:Int)<0):=by omega
 have Z: ¬((N:Int)<=(v:Int)):=by omega
 have c3: ¬(t<k):=by omega
 rcases y with⟨rfl,_⟩|⟨A,j,rfl,R⟩
 . simp at a
 . obtain⟨G,es,c,f,m,q,C,I,J⟩:=R.ex;have S:=St.init3 (M:=(· ∈[d,A,w])) T (o1:=.row G 1) (o2:=.row _ 1) (o3:=.map es c) m R.row q R.ne.1.symm R.ne.2.2 R.ne.2.1 (by simp) (by simp) (by simp);have L:=nI (x:=(v:Int)) Tryz.t230.1 Tryz.t3.1 (z:=.int .i64 0) (by kernel_rfl) q I;have fv:f v=some (.int .i64 i):=(by have:=J.1 i a;rwa [u]at this);rw [fv]at L;have O:=C.ld1 m a;have P:=C.len;have ad:=C.le;have ek:(l.getD i default).key=t:=(by rw [u]);have B:(l.getD i default).id=v:=(by rw [u]);rw [ek]at O;refine aa (n:=61) (rs:=[.tmp 6]) rfl Tryz.e208 rfl rfl rfl (lbt rfl) ?_;simp only [BZ,L,Y,Z,c3,a,O,Xt,S.ld (b:=d) (o:=0) m1 rfl,S.ld (b:=d) (o:=1) m1 rfl,S.ld (b:=d) (o:=2) m1 rfl,seval];refine aC (S.store (i:=0) (off:=i*2+1) rfl Tryz.t2.2.2.1 (by intro x e;cases e) rfl rfl (by omega) ono) ?_;clear S;rintro h ⟨S,_⟩;simp only [LC,ae]at S;have Q:=C.setKey a k;generalize lay G (i*2+1) _=af at S Q;simp only [BZ,S.ld (b:=d) (o:=0) m1 rfl,S.ld (b:=d) (o:=1) m1 rfl,seval];have R1:hZ h d A w j N (l.set i ⟨(l.getD i default).id,k⟩):=S.rowS Q (by rw [Xh]) I (J.setKey k);refine step_ret (up_ok S.ok R1 (i:=i) (by rw [Xh];exact a) (by rw [Xh];omega) (Eh V (by unfold Ab.hle;simp only [];omega))) ?_;rintro r h ⟨f,l',R',D,E⟩;simp only [BZ,seval];have s:=g.lower a k;rw [B]at s;refine⟨S.fr.trans f (fun c g=>?_),⟨d,w,l',rfl,E,(by rw [B]at D;exact s.perm D),fun x y=>?_,.inr ⟨A,j,rfl,R'⟩⟩⟩
   . rcases g with rfl|rfl<;>exact .inl (by simp)
   . have:=D.mem_iff.1 y;rcases List.mem_or_eq_of_mem_set this with h|rfl
     . exact hlt x h
     . rw [B];exact X
end
section
variable{h0:Hp}{F:List Nat}{p:Value}{N:Nat}{K:Nat->Option Int}
theorem tS(ok:OZ h0)(H:cE h0 F p N K)(hN:N<=1000):
 Ret zM 200 [p] h0 fun r h'=>(r=.tuple #[.int .i64 0,.int .i64 0,.bool false]/\(∀v,K v=none)/\Gr h0 h')\/ ∃v k,r=.tuple #[.int .i64 (v:Nat),.int .i64 k,.bool true]/\K v=some k/\(∀u k',K u=some k'->k<k'\/(k=k'/\v<=u))/\Mo (· ∈F) h0 h'/\cE h' F p N (dp K v none):=by
 obtain⟨m,B,O⟩:=tX ok H;obtain⟨d,D,l,rfl,ho,t,hlt,hx⟩:=H.ex;have aL:=xF t hlt;by_cases E:m=0
 . subst E;have S:=Si ok;refine aa (n:=55) (rs:=[.tmp 2,.tmp 3,.tmp 4]) rfl Tryz.e200 rfl rfl rfl (lbt rfl) ?_;simp only [BZ,seval];refine ag (B) ?_;intro h g;replace S:=S.call g;clear g;simp only [BZ,ab,Xc,seval];exact .inl ⟨O.1 rfl,S.gr⟩
 . have ad: ¬((m:Int)=0):=(by omega);rcases hx with⟨rfl,_⟩|⟨y,cap,rfl,R⟩
   . exact absurd (O.2 t.nil) E
   . have a:0<l.length:=by
      cases l with
      |nil=>exact absurd (O.2 t.nil) E|cons x l=>simp
     have S:=Si ok;refine aa (n:=55) (rs:=[.tmp 2,.tmp 3,.tmp 4]) rfl Tryz.e200 rfl rfl rfl (lbt rfl) ?_;simp only [BZ,seval];refine ag (B) ?_;intro h g;replace S:=S.call g;replace R:=R.gr g;clear g;have g0:=S.gr;clear S;obtain⟨cs,es,c,f,z,G,C,MI,IF⟩:=R.ex;have r0:=R.row.load1 (o:=0) rfl;have l2:=C.ld2 z a;have S:=Si g0.ok;have i0:iN (.int .i64 0) l.length=some 0:=iD (i:=0) a;have w1:an .i64 ((l.length:Int)-1)=((l.length-1:Nat):Int):=(by rw [wrap64]<;>omega);simp only [BZ,ad,seval];refine ao (lS (ord:=[14,0,1,2,3,4,5,6,7,8,9,10,11,12,13,15,16]) rfl rfl (by simp only [eh,pE,fI,List.getElem?_cons_zero,List.getElem?_cons_succ,List.map_toArray,Xv,Yk,cond_true,cond_false,seval];exact rfl)) (q:=1) (ps:=[(13,15),(12,15)]) (by kernel_rfl) ?_;simp only [BZ,cls,seval];refine df aA S ?_;clear S;intro h s S ax ay;simp only [BZ,cls,S.old r0 (fun h=>h),S.old l2 (fun h=>h),i0,w1,seval];refine cM (S.store (i:=0) rfl ?_ ?_ rfl rfl ?_ ono) ?_
     . exact(by exact Tryz.t323.2.1)
     . exact(by intro x e;cases e)
     . exact lbt rfl
     clear S;rintro h ⟨S,mo⟩;clear mo;simp only [LC,ae,lay,Xq,Xr,seval]at S;simp only [BZ,cls,S.old r0 (fun h=>h),S.old l2 (fun h=>h),seval];have g1:=S.gr;have R1:=R.gr g1;have Y:=S.lds (b:=s) (o:=0) (n:=2) m0 (lbt rfl);have A:=R.lt g0.ok;have nb:s≠d:=fun e=>(by have:=A d (.inl rfl);omega);have P:s≠y:=fun e=>(by have:=A y (.inr (.inl rfl));omega);refine⟨by simp only [aJ,aR,aH,aT,aI,ne_eq,not_false_eq_true,aY,bC,aQ,aN,bF,bW,aD,XW,ah,gJ,tF,c8 nb,c8 nb.symm,c8 P,c8 P.symm,seval],?_⟩;have sw:Ret zM 250 [ptrTo d,.int .i64 0,.int .i64 ((l.length-1:Nat):Int)] _ _:=v8 S.ok R1 (i:=0) (k:=l.length-1) a (by omega);refine step_ret sw ?_
     --refine step_ret (v8 S.ok R1 (i := 0) (k := l.length - 1) a (by omega)) ?_
     rintro r I ⟨Z,L⟩;have gg:Gr h0 h:=g0.trans g1;have mA:Mo (· ∈[d,y,D]) h0 I:=(gg.fr (M:=(· ∈[d,y,D]))).trans Z (fun c t=>.inl (by rcases t with rfl|rfl<;>simp));have J:I.load s 0 2=some [.int .i64 (l.getD 0 default).id,.int .i64 (l.getD 0 default).key]:=(by have:=Z.get s (bA Z.ok0 Y) (fun hM=>by have:=A s (.inr hM);omega);unfold Hp.load at Y⊢;rw [this];exact Y);have a0:=L.lt mA.ok;have af:=mA.ok;have Q:=bA mA.ok J;clear S R R1 Z sw z G C MI IF Y l2 r0;obtain⟨cs,es,c,f,z,G,C,MI,IF⟩:=L.ex;have S:=St.init3 (M:=(· ∈[d,y,D])) (h:=I) af (o1:=.row cs 1) (o2:=.row _ 1) (o3:=.map es c) z L.row G L.ne.1.symm L.ne.2.2 L.ne.2.1 (by simp) (by simp) (by simp);have sl:=Bk (kd:=.i64) (b:=y) (len:=(sw l 0 (l.length-1)).length) (n:=l.length-1) Tryz.t321.1 Tryz.t330.2.1 (cap:=cap) (by have:=C.le;rw [i6]at this;omega);simp only [BZ,XB,XQ,sl,S.ld (b:=d) (o:=0) m1 rfl,S.ld (b:=d) (o:=1) m1 rfl,seval];refine aC (aE S (i:=1) rfl ?_ ?_ ?_ ono) ?_
     . exact(by simp only [FA0])
     . exact(by exact aU)
     . exact Xg (lbt rfl)
     clear S;rintro h ⟨S,mo⟩;clear mo;simp only [LC,ae,lay,Xq,Xr,seval]at S;simp only [BZ,S.ld (b:=d) (o:=0) m1 rfl,S.ld (b:=d) (o:=1) m1 rfl];refine ao (av rfl) (q:=0) (ps:=[]) (by kernel_rfl) ?_;have T: ¬s∈[d,y,D]:=fun O=>(by have:=A s (by simpa using O);omega);have U:I.load s 0 1=some [.int .i64 (l.getD 0 default).id]:=(by have:=qU J (i:=0) (m:=1) (by omega);simpa using this);have ai:I.load s 1 1=some [.int .i64 (l.getD 0 default).key]:=(by have:=qU J (i:=1) (m:=1) (by omega);simpa using this);simp only [BZ,cls,S.old U T,S.ld (b:=d) (o:=1) m1 rfl,seval];refine dn_del (S.mdelI (i:=2) rfl Tryz.t230.1 Tryz.t3.1 MI) ?_;clear S;rintro h ⟨_,a1,c',ak,S⟩;simp only [LC]at S;simp only [BZ,seval];have V:(sw l 0 (l.length-1)).length=l.length:=i6 _ _ _;have w:=jI l (i:=0) (k:=l.length-1) a (by omega) (l.length-1);rw [if_pos rfl]at w;have W:=IF.cut (m:=l.length-1) (by omega);rw [w]at W;have tl:((sw l 0 (l.length-1)).take (l.length-1)).length=l.length-1:=(by rw [Xy,V];omega);have R3:hZ h d y D cap N ((sw l 0 (l.length-1)).take (l.length-1)):=S.rowS (C.take _) tl.symm ak W;have dn:Ret zM 251 [ptrTo d,.int .i64 0] h _:=down_ok S.ok R3 (i:=0) (by
      by_cases e:l.length-1=0
      . exact .inr ⟨List.length_eq_zero_iff.1 (by rw [tl,e]),rfl⟩
      . exact .inl (by omega)) (by omega) (heap_pop ho a)
     refine step_ret dn ?_;rintro r h ⟨fB,l',R',pm,al⟩;have mB:Mo (· ∈[d,y,D]) I h:=S.fr.trans fB (fun c t=>.inl (by rcases t with rfl|rfl<;>simp));have X: ∀{o x},I.load s o 1=some x->h.load s o 1=some x:=fun e=>(by have:=mB.get s Q T;unfold Hp.load at e⊢;rw [this];exact e);simp only [BZ];refine ao (av rfl) (q:=0) (ps:=[]) (by kernel_rfl) ?_;simp only [BZ,cls,ab,X U,X ai,seval];refine .inr ⟨(l.getD 0 default).id,(l.getD 0 default).key,rfl,t.at a,fun u k' hu=>?_,mA.trans mB (fun c t=>.inl t),⟨d,D,l',rfl,al,(t.pop a).perm pm,fun x hx=>?_,.inr ⟨y,cap,rfl,R'⟩⟩⟩
     . obtain⟨j,hj,e⟩:=t.idx hu;have:=BK ho j hj;rw [e]at this;unfold Ab.hle at this;simp only []at this;omega
     . exact hlt x ((vu l a (by omega)).mem_iff.1 (Ya (pm.mem_iff.1 hx)))
end
structure Ev where
 kind:Nat
 id:Nat
 lab:Nat
def iQ(e:Ev):List Value:=[.int .i64 e.kind,.int .i64 0,.int .i64 e.id,.int .i64 e.lab]
theorem qS(e:Ev):(iQ e).length=4:=rfl
structure SS where
 K:Nat->Option Int
 L:Nat->Nat
 P:Nat->List Nat
 O:List Nat
 ev:List Ev
variable{σ:SS}
structure Fd where
 dist:Nat
 arcs:List Nat
 ev:List Ev
def nj(K:Nat->Option Int)(v:Nat)(k:Int):Prop:=K v=some k/\ ∀u a,K u=some a->k<a\/(k=a/\v<=u)
theorem nj.uniq{k k':Int}(h:nj K v k)(g:nj K u k'):v=u/\k=k':=by have a:=h.2 _ _ g.1;have b:=g.2 _ _ h.1;omega
def mS(P:Nat->List Nat)(v:Nat)(l:List Nat):Nat->List Nat:=fun u=>if u=v then l else P u
def iL(pi:Nat->Int)(σ:SS)(v lab:Nat)(p:List Nat):SS:=
 if v∈σ.O\/(FAR:Int)<=pi v\/((σ.K v).isSome=true/\σ.L v<=lab)then σ else⟨dp σ.K v (some (lab+pi v)),dU σ.L v lab,mS σ.P v p,σ.O,σ.ev⟩
def gm(σ:SS)(v:Nat):SS:=⟨dp σ.K v none,σ.L,σ.P,σ.O++[v],σ.ev++[⟨0,v,σ.L v⟩]⟩
def evS(σ:SS)(e:Ev):SS:=⟨σ.K,σ.L,σ.P,σ.O,σ.ev++[e]⟩
def scan1(A:List Arc)(al:Nat->Bool)(pi:Nat->Int)(v:Nat)(σ:SS)(a:Nat):SS:=
 if al a=true then iL pi (evS σ ⟨1,a,0⟩) (A.getD a default).t (σ.L v+(A.getD a default).w) (a::σ.P v)else σ
def tg(A:List Arc)(al:Nat->Bool)(pi:Nat->Int)(v:Nat)(σ:SS):SS:=(outs A Arc.s A.length v).foldl (scan1 A al pi v) σ
def oL(pi:Nat->Int)(s:Nat):SS:=iL pi ⟨fun _=>none,fun _=>0,fun _=>[],[],[]⟩ s 0 []
inductive Ends(A:List Arc)(al:Nat->Bool)(pi:Nat->Int)(to:Nat):SS->Fd->Prop where
 |none {σ:SS}:(∀v,σ.K v=none)->Ends A al pi to σ ⟨FAR,[],σ.ev⟩
 |hit {σ:SS} {k:Int}:nj σ.K to k->Ends A al pi to σ ⟨σ.L to,(σ.P to).reverse,(gm σ to).ev⟩
 |step {σ:SS} {v:Nat} {k:Int} {r:Fd}:nj σ.K v k->v≠to->Ends A al pi to (tg A al pi v (gm σ v)) r->Ends A al pi to σ r
section
variable{A:List Arc}{N s:Nat}{al:Nat->Bool}{pi:Nat->Int}{σ:SS}
structure Sv(A:List Arc)(N s:Nat)(al:Nat->Bool)(pi:Nat->Int)(σ:SS):Prop where
 nd:σ.O.Nodup
 lt: ∀v∈σ.O,v<N
 op: ∀v k,σ.K v=some k->v<N/\v∉σ.O/\pi v<(FAR:Int)/\k=σ.L v+pi v
 bd: ∀v,σ.L v<=σ.O.length*cH/\(σ.P v).length<=σ.O.length
 pc: ∀v∈σ.O,pi v<(FAR:Int)
 path: ∀v,(v∈σ.O\/σ.K v≠none)->(v=s/\σ.P v=[]/\σ.L v=0)\/ ∃a,a<A.length/\al a=true/\(A.getD a default).t=v/\(A.getD a default).s∈σ.O/\σ.P v=a::σ.P (A.getD a default).s/\σ.L v=σ.L (A.getD a default).s+(A.getD a default).w
theorem Sv.len(h:Sv A N s al pi σ):σ.O.length<=N:=re N σ.O h.nd h.lt
theorem Sv.evS(h:Sv A N s al pi σ)(e:Ev):Sv A N s al pi (evS σ e):=⟨h.nd,h.lt,h.op,h.bd,h.pc,h.path⟩
theorem sv_init(b:s<N):Sv A N s al pi (oL pi s):=by
 unfold oL iL;have z:Sv A N s al pi ⟨fun _=>none,fun _=>0,fun _=>[],[],[]⟩:=
  ⟨.nil,fun v h=>(by cases h),fun v k h=>(by cases h),fun v=>⟨XM _,XM _⟩,fun v h=>(by cases h),fun v h=>h.elim (fun h=>by cases h) (fun h=>absurd rfl h)⟩
 split
 . exact z
 . rename_i a;simp only [not_or]at a;refine⟨.nil,fun v h=>(by cases h),fun v k h=>?_,fun v=>⟨?_,?_⟩,fun v h=>(by cases h),fun v h=>?_⟩
   . grind[dp,dU]
   . simp only [dU];split<;>simp
   . simp only [mS];split<;>simp
   . by_cases e:v=s
     . subst e;exact .inl ⟨rfl,by simp [mS],by simp [dU]⟩
     . simp [dp,e]at h
structure oI(σ τ:SS):Prop where
 O:τ.O=σ.O
 L: ∀u∈σ.O,τ.L u=σ.L u
 P: ∀u∈σ.O,τ.P u=σ.P u
theorem oI.refl:oI σ σ:=⟨rfl,fun _ _=>rfl,fun _ _=>rfl⟩
theorem oI.trans{τ b:SS}(h:oI σ τ)(g:oI τ b):oI σ b:=
 ⟨g.O.trans h.O,fun u a=>(g.L u (by rw [h.O];exact a)).trans (h.L u a),fun u a=>(g.P u (by rw [h.O];exact a)).trans (h.P u a)⟩
theorem Sv.reach(h:Sv A N s al pi σ){a lab:Nat}{p:List Nat}(o:a<A.length)(d:al a=true)(r:(A.getD a default).t=v)(C:v<N)(f:(A.getD a default).s∈σ.O)(t:lab=σ.L (A.getD a default).s+(A.getD a default).w)(w:p=a::σ.P (A.getD a default).s)
 (b1:lab<=σ.O.length*cH) (b2:p.length<=σ.O.length):Sv A N s al pi (iL pi σ v lab p)/\oI σ (iL pi σ v lab p):=by
 unfold iL
 split
 . exact⟨h,.refl⟩
 . rename_i j;simp only [not_or]at j;obtain⟨x,D,E⟩:=j;have q: ∀u∈σ.O,u≠v:=fun u c e=>x (by grind);refine⟨⟨h.nd,h.lt,fun u k g=>?_,fun u=>⟨?_,?_⟩,h.pc,fun u c=>?_⟩,⟨rfl,fun u c=>by simp [dU,q u c],fun u c=>by simp [mS,q u c]⟩⟩
   . simp only [dp,dU]at g⊢
     split at g
     . grind
     . rename_i e;rw [if_neg e];exact h.op u k g
   . simp only [dU];split
     . exact b1
     . exact(h.bd u).1
   . simp only [mS];split
     . exact b2
     . exact(h.bd u).2
   . have y:dU σ.L v lab (A.getD a default).s=σ.L (A.getD a default).s:=if_neg (q _ f);have z:mS σ.P v p (A.getD a default).s=σ.P (A.getD a default).s:=if_neg (q _ f);by_cases e:u=v
     . subst e;refine .inr ⟨a,o,d,r,f,?_,?_⟩
       . show mS σ.P u p u=a::mS σ.P u p (A.getD a default).s;rw [z,<-w];exact if_pos rfl
       . show dU σ.L u lab u=dU σ.L u lab (A.getD a default).s+(A.getD a default).w;rw [y,<-t];exact if_pos rfl
     . have i:u∈σ.O\/σ.K u≠none:=(by simpa [dp,e]using c);rcases h.path u i with⟨l,m,n⟩|⟨b,l,m,n,B,F,G⟩
       . grind[mS,dU]
       . refine .inr ⟨b,l,m,n,B,?_,?_⟩
         . simp_all[mS,if_neg]
         simp_all[dU,if_neg]
theorem Sv.close(h:Sv A N s al pi σ){k:Int}(i:σ.K v=some k):Sv A N s al pi (gm σ v):=by
 obtain⟨x,j,y,z⟩:=h.op v k i;have l:(σ.O++[v]).length*cH=σ.O.length*cH+cH:=by grind
 refine⟨?_,fun u f=>?_,fun u m f=>?_,fun u=>⟨?_,?_⟩,fun u f=>?_,fun u f=>?_⟩
 . show(σ.O++[v]).Nodup;rw [XK];exact⟨h.nd,by simp,fun a B b C e=>j (by grind)⟩
 . rcases List.mem_append.1 f with f|f
   . exact h.lt u f
   grind
 . simp only [gm,dp]at f⊢
   split at f
   . cases f
   . rename_i e;obtain⟨a,b,c,d⟩:=h.op u m f;grind
 . show σ.L u<=(σ.O++[v]).length*cH;rw [l];have:=(h.bd u).1;omega
 . show(σ.P u).length<=(σ.O++[v]).length;have:=(h.bd u).2;simp;omega
 . rcases List.mem_append.1 f with f|f
   . exact h.pc u f
   grind
 . have g:u∈σ.O\/σ.K u≠none:=by
    by_cases e:u=v
    . grind
    . simpa [gm,dp,e]using f
   rcases h.path u g with n|⟨b,o,p,q,r,t,w⟩
   . exact .inl n
   . exact .inr ⟨b,o,p,q,Xe _ r,t,w⟩
def Room(σ:SS)(v:Nat):Prop:=v∈σ.O/\σ.L v+cH<=σ.O.length*cH/\(σ.P v).length+1<=σ.O.length
theorem Room.keeps{τ:SS}(r:Room σ v)(k:oI σ τ):Room τ v:=by obtain⟨a,b,c⟩:=r;exact⟨by rw [k.O];exact a,by rw [k.O,k.L v a];exact b,by rw [k.O,k.P v a];exact c⟩
theorem Sv.room(h:Sv A N s al pi σ)(v:Nat):Room (gm σ v) v:=by
 have:=h.bd v;refine⟨Xl _ (by simp),?_,?_⟩
 . show σ.L v+cH<=(σ.O++[v]).length*cH;rw [XH,List.length_singleton,Nat.succ_mul];omega
 . show(σ.P v).length+1<=(σ.O++[v]).length;simp;omega
theorem Sv.scan1(h:Sv A N s al pi σ)(d: ∀a∈A,a.t<N/\a.w<=cH){v a:Nat}(r:Room σ v)(e:a<A.length)(f:(A.getD a default).s=v):Sv A N s al pi (scan1 A al pi v σ a)/\oI σ (scan1 A al pi v σ a):=by
 unfold Ab.scan1
 split
 . rename_i b;obtain⟨g,l,i⟩:=r;have j:=d (A.getD a default) (by grind);subst f;obtain⟨k,c⟩:=(h.evS ⟨1,a,0⟩).reach (p:=a::σ.P (A.getD a default).s) (lab:=σ.L (A.getD a default).s+(A.getD a default).w) e b rfl j.1 g rfl rfl (by show _<=σ.O.length*cH;omega) (by show(σ.P _).length+1<=σ.O.length;exact i);exact⟨k,⟨c.O,c.L,c.P⟩⟩
 . exact⟨h,.refl⟩
theorem Sv.scanL(d: ∀a∈A,a.t<N/\a.w<=cH){v:Nat}: ∀(l:List Nat) {σ:SS},Sv A N s al pi σ->Room σ v->(∀a∈l,a<A.length/\(A.getD a default).s=v)->Sv A N s al pi (l.foldl (Ab.scan1 A al pi v) σ)/\oI σ (l.foldl (Ab.scan1 A al pi v) σ)
 | [],_,h,_,_=>⟨h,.refl⟩| a::l,σ,h,r,c=>by obtain⟨f,e⟩:=h.scan1 d r (c a (by simp)).1 (c a (by simp)).2;obtain⟨g,i⟩:=Sv.scanL d l f (r.keeps e) (fun b j=>c b (by simp [j]));exact⟨g,e.trans i⟩
theorem Sv.next(h:Sv A N s al pi σ)(b: ∀a∈A,a.t<N/\a.w<=cH){k:Int}(c:σ.K v=some k):Sv A N s al pi (tg A al pi v (gm σ v))/\oI (gm σ v) (tg A al pi v (gm σ v)):=
 Sv.scanL b _ (h.close c) (h.room v) (fun _ d=>mg.1 d)
def InH(A:List Arc)(al:Nat->Bool)(pi:Nat->Int)(a:Nat):Prop:=al a=true/\pi (A.getD a default).s<(FAR:Int)/\pi (A.getD a default).t<(FAR:Int)
instance (a:Nat):Decidable (InH A al pi a):=by unfold InH;infer_instance
end
def mJ(E:Env)(g:FuncId)(a post:List Value)(h0:Hp)(D:Nat->Prop)(xs:List (List Value)):Prop:=
 ∀b J Z,(∀v h,¬Z (.pan v) h)->Yld E b J Z xs-> ∀h F,ItS h0 D h F->J 0 h F->ey E g (a++[.func (.yield b) #[] #[]]++post) none h (YQ J Z xs.length)
theorem iter_useN{a post:List Value}{xs:List (List Value)}(H:mJ E g a post h0 D xs){J:Nat->Hp->List Nat->Prop}{Z:Out->Hp->Prop}(i: ∀v h,¬Z (.pan v) h)(Y:Yld E c J Z xs)
   (d:Mo (fun b=> ¬D b) h0 h) (j: ∀b∈F,b<h0.n-> ¬D b) (f:J 0 h F):ey E g (a++[.func (.yield c) #[] #[]]++post) none h (YQ J Z xs.length):=
 H c J Z i Y h F ⟨d.ok,d.n,fun b e k=>d.get b e (fun l=>l k),fun b e h=>j b e h.1 h.2,(Y.lt 0 h F f).2⟩ f
theorem dn_yield{cx:Cx}{Q:gp}{a:List Oper}{q:Nat}{ps:List (Nat×Nat)}{o:Oper}{os:List Oper}{k:List Fr}{l:Loc}{d:Hp->List (Nat×Tch)}{J:Nat->Hp->List Nat->Prop}{Z:Out->Hp->Prop}{xs:List (List Value)}{x:List Value}
 (t: ∀v h,¬Z (.pan v) h) (Y:Yld E e J Z xs) (s:ItS h0 D h F) (f:J j h F) (g:xs[j]? =some x)
 (m: ∀h' F',J (j+1) h' F'->ItS h0 D h' F'->Mo (· ∈F) h h'->(∀b∈F',b∈F\/h.n<=b)->Run E (lim E) cx Q (.opsD a q ps os (i+1) (d h')::k) .normal (l.put o.dst (.bool true)) h')
 (k2: ∀h',Z (.ret (.bool false)) h'->OZ h'->Run E (lim E) cx Q (.opsD a q ps os (i+1) (d h')::k) .normal (l.put o.dst (.bool false)) h'):DN E cx Q a q ps o os i k l d (some (.yield e x,h)):=by
 obtain⟨n,h',p,r⟩:=Y.round j x h F g f;refine⟨n,h',p,?_⟩;rcases r with⟨rfl,F',a,b,c⟩|⟨rfl,a,b⟩|⟨⟨v,rfl⟩,a⟩
 . exact m h' F' a (s.mo b c (Y.lt _ _ _ a).2) b c
 . exact k2 h' a b
 grind
def eZ(h h':Hp):Prop:= ∀b,b<h.n->h'.get b=h.get b
theorem eZ.load{h h':Hp}(a:OZ h)(g:eZ h h'){b o n:Nat}{l:List Value}(e:h.load b o n=some l):h'.load b o n=some l:=by have:=g b (bA a e);grind[Hp.load]
theorem eZ.row(a:OZ h)(g:eZ h h'){l:List Value}{md:Nat}(r:Row h b l md):Row h' b l md:=Row.of_get (g b (r.lt a)) r
theorem az.keep{a:Type}{enc:a->List Value}{v:Value}{xs:List a}(d:OZ h)(g:eZ h h')(s:az h k enc v xs):az h' k enc v xs:=by
 rcases s with s|⟨b,o,s,c,e,f,i⟩
 . exact .inl s
 . exact .inr ⟨b,o,s,c,e,f,g.load d i⟩
theorem iK.keep{h h':Hp}{v:Value}{m N:Nat}{R:Nat->List Nat}(d:OZ h)(g:eZ h h')(r:iK h m v N R):iK h' m v N R:=by
 obtain⟨e,f,j,k,l,n,o⟩:=r;exact⟨e,f,j,k,g.row d l,n,fun i p=>by
  obtain⟨w,a,b,c⟩:=o i p;exact⟨w,a,b.keep d g,c⟩⟩
theorem aS.keep{h h':Hp}{m:Nat}{p:Value}{d:Gra}(a:OZ h)(g:eZ h h')(n:aS h m p d):aS h' m p d:=by obtain⟨b,e,f,i,j,k,l,o,c,q,r,s,t⟩:=n.ex;exact⟨b,e,f,i,j,k,l,g.row a o,⟨c.X.keep a g,c.Y.keep a g,c.A.keep a g⟩,q.keep a g,r.keep a g,s,t⟩
theorem Gr.keep(g:Gr h h'):eZ h h':=g.get
theorem eZ.trans{a b c:Hp}(x:eZ a b)(n:a.n<=b.n)(y:eZ b c):eZ a c:=fun i d=>(y i (XI d n)).trans (x i d)
theorem ItS.keep(s:ItS h0 D h F)(g:eZ hq h0)(n:hq.n<=h0.n)(d: ∀c,c<hq.n->D c):eZ hq h:=fun b a=>(s.data b (XI a n) (d b a)).trans (g b a)
theorem xX{n:Int}(a:0<=n)(b:n<18446744073709551616):an .u64 n=n:=by obtain⟨m,rfl⟩:=Int.eq_ofNat_of_zero_le a;grind[an,hf,sgn,pw,Nat.blt,Nat.blt_eq]
theorem b_andU{x:Operand}(h:N<4294967296):bV E .and t x y (.int .u64 (N:Int)) (.int .u64 4294967295)=some (.int .u64 (N:Int)):=by
 have a:Nat.blt N 18446744073709551616=true:=by rw [Nat.blt_eq];omega
 have b:Nat.land N 4294967295=N:=by have:=Nat.and_two_pow_sub_one_eq_mod N 32;simp_all
 have c:=xX (n:=(N:Int)) (by omega) (by omega);have e4:jv .and .u64 (.ofNat N) (.ofNat 4294967295)=some (an .u64 (.ofNat (Nat.land N 4294967295))):=by simp only [jv,pw];rw [a];rfl
 show(jv .and .u64 (.ofNat N) (.ofNat 4294967295)).map _=_;grind
theorem b_shrU{x:Operand}(h:N<4294967296):bV E .shr t x y (.int .u64 (N:Int)) (.int kd 32)=some (.int .u64 0):=by
 have e:N/Nat.pow 2 (bif XT 32 (bitsOf .u64)then 32 else bitsOf .u64)=0:=by show N/4294967296=0;omega
 show(ug .shr .u64 (.ofNat N) (.ofNat 32)).map _=_;show some (Value.int .u64 (.ofNat (N/Nat.pow 2 (bif XT 32 (bitsOf .u64)then 32 else bitsOf .u64))))=_;rw [e];rfl
theorem jE(i:OZ h0){d:Type}{enc:d->List Value}(j: ∀x,(enc x).length=1){v:Value}{xs:List d}(k:az h0 1 enc v xs)(t:xs.length<1000000):Ret zM 81 [v] h0 fun r h'=>Gr h0 h'/\az h' 1 enc r xs/\ ∀c,aq r c->h0.n<=c:=by
 have S:=Si i;rcases k with⟨rfl,rfl⟩|⟨b,o,s,c,rfl,l,m⟩
 . refine aa (n:=8) (rs:=[.tmp 2]) rfl Tryz.e81 rfl rfl rfl (lbt rfl) ?_;simp only [BZ,ab,seval];exact⟨S.gr,.inl ⟨rfl,rfl⟩,fun c a=>a.elim⟩
 . refine aa (n:=8) (rs:=[.tmp 2]) rfl Tryz.e81 rfl rfl rfl (lbt rfl) ?_;simp only [BZ,seval];refine ac (ce (by exact Tryz.t41.1) (by exact XO) (by decide) (by rfl)) S ?_;clear S;intro h u S f;simp only [LC,bH,cg,ae,Xx,Xo,Xn,XC,seval]at S;simp only [BZ,seval];refine dE (S.cloneSl (enc:=enc) (xs:=[]) Tryz.t41.1 XO (by decide) Tryz.t41.2.2.2.2.2 (.inr ⟨b,o,s,c,rfl,l,S.old m (fun h=>h)⟩) j (by decide) (by simp only [List.length_nil,Xo];omega) (S.row m0)) ?_;rintro h' v ⟨p,g,q,a⟩;simp only [BZ,ab,seval];refine⟨p.gr,by simpa using q,fun c h=>(a c h).elim (fun e=>by omega) (fun e=>Xk S.fr.n e)⟩
theorem bM(d:OZ h0){a:Gra}(c:aS h0 e p a):aO zM 10 [p] h0 (.int .i64 a.nodes):=by have S:=Si d;obtain⟨b,g,h,i,j,k,rfl,r,_⟩:=c.ex;have f:=r.load1 (o:=0) rfl;refine aa (n:=10) (rs:=[.tmp 2]) rfl Tryz.e10 rfl rfl rfl (lbt rfl) ?_;simp only [BZ,ab,f,seval];exact S.gr
theorem oneArc_ok(j:OZ h0){v:Value}{A:List Arc}(f:az h0 3 c7 v A)(k:i<A.length):Ret zM 220 [v,.int .i64 i] h0 fun r h'=>Gr h0 h'/\r=.tuple #[.agg ⟨c7 A[i]⟩,.bool true]:=by
 have S:=Si j;have l: ¬((i:Int)<0):=by omega
 have m: ¬((A.length:Int)<=(i:Int)):=by omega
 refine aa (n:=19) (rs:=[.cell 4 135,.tmp 5]) rfl Tryz.e220 rfl rfl rfl (lbt rfl) ?_;simp only [BZ];refine ac aA S ?_;clear S;intro h p S g;obtain⟨c,o,a,d⟩:=(f.gr S.gr).ix (kd:=.i64) jC k;simp only [BZ,f.lenq,l,m,a,d,seval];refine aC (S.store (i:=0) rfl ?_ ?_ rfl rfl ?_ ono) ?_
 . exact(by exact Tryz.t135.2.1)
 . exact(by intro x e;cases e)
 . exact lbt rfl
 clear S;rintro h ⟨S,q⟩;clear q;simp only [LC,ae,lay,Xq,Xr,seval]at S;simp only [BZ,ab,c7];refine(bw (by decide) (by simp only [aD,ah,seval];exact bj Tryz.t135.1 Tryz.t135.2.1 (S.lds (b:=p) (o:=0) (n:=3) m0 (lbt rfl)))).2 ?_;refine(dX (by decide)).2 (bS.2 ?_);exact⟨S.gr,rfl⟩
theorem An(c:OZ h0){v:Value}{R:Nat->List Nat}(d:iK h0 m v N R)(a:i<N):Ret zM 206 [v,.int .i64 i] h0 fun r h'=>Gr h0 h'/\ ∃w,r=.tuple #[w,.bool true]/\az h' 1 bK w (R i):=by
 have S:=Si c;obtain⟨o,p,rfl,_,f,b,g⟩:=d;obtain⟨w,e,h,_⟩:=g i a;have j:=f.load1 e;have k: ¬((i:Int)<0):=by omega
 have l: ¬((N:Int)<=(i:Int)):=by omega
 refine aa (n:=19) (rs:=[.tmp 4,.tmp 5]) rfl Tryz.e206 rfl rfl rfl (lbt rfl) ?_;simp only [BZ,ab,k,l,a,j,seval];exact⟨S.gr,_,rfl,h⟩
theorem ku(f:OZ h0){a:Gra}(c:aS h0 j p a)(k:i<a.arcs.length):Ret zM 161 [p,.int .i64 i] h0 fun r h'=>Gr h0 h'/\r=.tuple #[.agg ⟨c7 a.arcs[i]⟩,.bool true]:=by
 have S:=Si f;obtain⟨b,t,u,w,y,z,rfl,r,l,_⟩:=c.ex;have m:=r.load1 (o:=3) rfl;refine aa (n:=18) (rs:=[.cell 4 135,.tmp 5]) rfl Tryz.e161 rfl rfl rfl (lbt rfl) ?_;simp only [BZ];refine ac aA S ?_;clear S;intro h q S d;simp only [BZ,S.old m (fun h=>h),seval];refine step_ret (oneArc_ok S.ok (l.A.gr S.gr) k) ?_;rintro v h ⟨g,rfl⟩;replace S:=S.call g;clear g;simp only [BZ,c7,seval];refine aC (S.store (i:=0) rfl ?_ ?_ rfl rfl ?_ ono) ?_
 . exact(by exact Tryz.t135.2.1)
 . exact(by intro x e;cases e)
 . exact lbt rfl
 clear S;rintro h ⟨S,s⟩;clear s;simp only [LC,ae,lay,Xq,Xr,seval]at S;simp only [BZ,ab,seval];refine(bw (by decide) (by simp only [aD,ah,seval];exact bj Tryz.t135.1 Tryz.t135.2.1 (S.lds (b:=q) (o:=0) (n:=3) m0 (lbt rfl)))).2 ?_;refine(dX (by decide)).2 (bS.2 ?_);exact⟨S.gr,rfl⟩
theorem uw(e:OZ h0){a:Gra}(c:aS h0 f p a)(j:a.arcs.length<1000)(k:i<a.nodes):Ret zM 129 [p,.int .i64 i] h0 fun r h'=>Gr h0 h'/\az h' 1 bK r (outs a.arcs Arc.s a.arcs.length i)/\ ∀c,aq r c->h0.n<=c:=by have S:=Si e;obtain⟨b,t,u,x,y,z,rfl,r,A,l,B,_⟩:=c.ex;have m:=r.load1 (o:=4) rfl;refine aa (n:=20) (rs:=[.tmp 4]) rfl Tryz.e129 rfl rfl rfl (lbt rfl) ?_;simp only [BZ,m,seval];refine step_ret (An S.ok l k) ?_;rintro v h ⟨g,w,rfl,d⟩;replace S:=S.call g;clear g;simp only [BZ,seval];have q:=S.fr.n;have s:=kI a.arcs Arc.s a.arcs.length i;refine step_ret (jE S.ok dC d (by omega)) ?_;intro v h ⟨g,d,hc⟩;replace S:=S.call g;clear g;simp only [BZ,ab,seval];exact⟨S.gr,d,fun c h=>Xk q (hc c h)⟩
theorem wS(e:OZ h0){a:Gra}(c:aS h0 f p a)(j:a.arcs.length<1000)(k:i<a.nodes):Ret zM 131 [p,.int .i64 i] h0 fun r h'=>Gr h0 h'/\az h' 1 bK r (outs a.arcs Arc.t a.arcs.length i)/\ ∀c,aq r c->h0.n<=c:=by have S:=Si e;obtain⟨b,t,u,x,y,z,rfl,r,A,B,l,_⟩:=c.ex;have m:=r.load1 (o:=5) rfl;refine aa (n:=20) (rs:=[.tmp 4]) rfl Tryz.e131 rfl rfl rfl (lbt rfl) ?_;simp only [BZ,m,seval];refine step_ret (An S.ok l k) ?_;rintro v h ⟨g,w,rfl,d⟩;replace S:=S.call g;clear g;simp only [BZ,seval];have q:=S.fr.n;have s:=kI a.arcs Arc.t a.arcs.length i;refine step_ret (jE S.ok dC d (by omega)) ?_;intro v h ⟨g,d,hc⟩;replace S:=S.call g;clear g;simp only [BZ,ab,seval];exact⟨S.gr,d,fun c h=>Xk q (hc c h)⟩
theorem mul64_ok(b:OZ h0)(i:N<1000):aO zM 272 [.int .u64 1,.int .u64 N] h0 (.tuple #[.int .u64 0,.int .u64 N]):=by have S:=Si b;have c: ∀{t x y},bV zM .and t x y (.int .u64 1) (.int .u64 4294967295)=some (.int .u64 1):=b_andU (N:=1) (by decide);have d: ∀{t x y},bV zM .and t x y (.int .u64 0) (.int .u64 4294967295)=some (.int .u64 0):=b_andU (N:=0) (by decide);have e: ∀{t x y a},bV zM .shr t x y (.int .u64 1) (.int a 32)=some (.int .u64 0):=b_shrU (N:=1) (by decide);have f: ∀{t x y a},bV zM .shr t x y (.int .u64 0) (.int a 32)=some (.int .u64 0):=b_shrU (N:=0) (by decide);have g:an .u64 (N:Int)=(N:Int):=xX (by omega) (by omega);have h:an .u64 0=0:=rfl;refine aa (n:=51) (rs:=[.tmp 4,.tmp 5]) rfl Tryz.e272 rfl rfl rfl (lbt rfl) ?_;simp only [BZ,ab,c,d,e,f,b_andU (N:=N) (by omega),b_shrU (N:=N) (by omega),Int.one_mul,Int.zero_mul,Int.mul_zero,Int.add_zero,g,h,seval];exact S.gr
theorem mul_ok(a:OZ h0)(b:N<1000):aO zM 247 [.int .u64 1,.int .u64 N] h0 (.tuple #[.int .u64 0,.int .u64 N]):=by have S:=Si a;refine aa (n:=30) (rs:=[.tmp 4,.tmp 5]) rfl Tryz.e247 rfl rfl rfl (lbt rfl) ?_;simp only [BZ,seval];refine ag (mul64_ok S.ok b) ?_;intro h g;replace S:=S.call g;clear g;simp only [BZ,ab,seval];exact S.gr
theorem AT{e:TypeId}(c:E.und t=some (.slice e))(d:E.sz e=some 1)(f:n<N):ic E t (.slice (some ⟨b,0,none⟩) N N) (some (.int kd (n:Int))) none none=some (.slice (some ⟨b,n,none⟩) (N-n) (N-n)):=by
 have a: ∀n:Nat,jf (n:Int)=some n:=fun n=>rfl;have g:XS N n=false:=by
  cases h:XS N n with
  |false=>rfl|true=>have:=X7 h;omega
 simp only [ic,c,gY,gL,a,Xi (Yl f),cond_true,d,Xj,cond_false,g,ig,Xn,Xo]
theorem zT{e:TypeId}(c:E.und t=some (.slice e))(d:E.sz e=some k)(f:n<=N):ic E t (.slice (some ⟨b,0,none⟩) N N) none (some (.int kd (n:Int))) none=some (.slice (some ⟨b,0,none⟩) n N):=by have a: ∀n:Nat,jf (n:Int)=some n:=fun n=>rfl;simp only [ic,c,gY,gL,a,Xi f,cond_true,d,Xj,cond_false,ig,Xx,Nat.add_zero,Nat.sub_zero];cases XS N 0<;>rfl
section
variable{M:Nat->Prop}{h0 h:Hp}{L:List (Nat×Ob)}{G:List GL}{E:Env}{t e:TypeId}
theorem St.copyO(S:St M h0 h L G){o len o2 c2:Nat}{j c:Option Nat}{l:List Value}(f:L[i]? =some (b,.row cs 1))(k:E.und t=some (.slice e))(n:E.sz e=some 1)(r:0<dR m len)(g:h.load b2 o2 (dR m len*1)=some l)(d:o+l.length<=cs.length)(hf:l.all mM=true){ts:List TypeId}:
 ∃h' w,copyV E h (t::ts) (.slice (some ⟨b,o,j⟩) len cap) (.slice (some ⟨b2,o2,c⟩) m c2)=some (h',w)/\w=.int .i64 (dR m len:Nat)/\St M h0 h' (L.set i (b,.row (lay cs o l) 1)) G:=by
 obtain⟨y,p,q⟩:=(S.row (Xd f)).store S.ok ono (o:=o) (vs:=l) d hf;have a:=load_len g;refine⟨h.put b y,_,?_,rfl,S.put f q⟩;simp only [copyV,k,n,g];cases l with
 |nil=>simp at a;omega|cons x s=>simp only [p];rfl
end
theorem lh{a:Nat}(h:a<=b):dR a b=a:=by unfold dR;rw [Xi h];rfl
theorem vh{a:Nat}(h:b<=a):dR a b=b:=by
 unfold dR;cases c:XT a b with
 |false=>rfl|true=>have:=lbt c;show a=b;omega
theorem wg{X Z:Value}(e:c<=k):lay (zO n X++zO k Z) n (zO c X)=zO (n+c) X++zO (k-c) Z:=by
 refine Xw fun j=>?_;rw [lC (by simp;omega),XP,Yb,Yb,XP,XP,Xs,Xs,Xs,Xs,Xs];by_cases a:j<n
 . rw [if_neg (by omega),if_pos a,if_pos a,if_pos (by omega),if_pos (by omega)]
 . by_cases b:j<n+c
   . rw [if_pos (by omega),if_pos (by omega),if_pos b,if_pos b]
   . rw [if_neg (by omega),if_neg a,if_neg b];by_cases d:j-n<k
     . rw [if_pos d,if_pos (by omega)]
     . rw [if_neg d,if_neg (by omega)]
theorem px(z:Value): ∀n,bH [z] n=zO n z
 |0=>rfl|n+1=>by simp [bH,px z n,List.replicate_succ]
def ClF(O:List Nat)(f:Int->Option Value):Prop:= ∀u:Nat,f (u:Int)=if u∈O then some (.int .i64 1)else none
section
variable{M:Nat->Prop}{h0 h h':Hp}{L L':List (Nat×Ob)}{G G':List GL}{Fh:List Nat}
theorem St.baseF(S:St M h0 h L G)(Fh:List Nat):St (fun c=>c∈keys L G\/c∈Fh) h h L G:=
 ⟨Mo.refl S.ok,fun p a=>⟨.inr (.inl (iP a)),(S.own p a).2⟩,fun p a=>⟨(S.gown p a).1,fun b d=>.inr (.inl (fk a d))⟩,S.apart⟩
theorem St.rebaseF(S:St M h0 h L G)(e: ∀c∈Fh,h0.n<=c\/M c)(T:St (fun c=>c∈keys L G\/c∈Fh) h h' L' G'):St M h0 h' L' G':=by have f: ∀b,h.n<=b\/(b∈keys L G\/b∈Fh)->h0.n<=b\/M b:=fun b a=>a.elim (fun a=>.inl (Xk S.fr.n a)) (fun a=>a.elim S.key_own (e b));exact⟨S.fr.trans T.fr fun b a=>(a.elim S.key_own (e b)).symm,fun p d=>⟨f _ (T.own p d).1,(T.own p d).2⟩,fun p d=>⟨(T.gown p d).1,fun b a=>f b ((T.gown p d).2 b a)⟩,T.apart⟩
theorem St.callF(S:St M h0 h L G){o o':Ob}(l:L[i]? =some (b,o))(f:Mo (fun c=>c∈Fh\/c=b) h h')(m: ∀c∈Fh,(M c\/h0.n<=c)/\c∉keys L G)(r:Has h' b o'):St M h0 h' (L.set i (b,o')) G:=by
 have s:=S.own _ (Xd l);have g:(keys L G)[i]? =some b:=nX l;refine⟨S.fr.trans f (fun c k=>by grind),fun p a=>?_,fun p a=>⟨(S.gown p a).1.of_get fun c k=>?_,(S.gown p a).2⟩,?_⟩
 . rcases n8 a with rfl|⟨j,n,a⟩
   . grind
   . have d:=S.own p (Xd a);refine⟨d.1,d.2.of_get (f.get _ (d.2.lt S.ok) fun e=>?_)⟩;rcases e with e|e
     . exact(m _ e).2 (iP (Xd a))
     . apply n;have q:(keys L G)[j]? =some b:=(by rw [nX a];rw [e]);exact qk S.apart q g
 . refine f.get c ((S.gown p a).1.lt S.ok k) fun e=>?_;rcases e with e|e
   . exact(m _ e).2 (fk a k)
   . subst e;have d:=S.apart;unfold keys at d;rw [XK]at d;exact d.2.2 c (List.mem_map.2 ⟨_,Xd l,rfl⟩) c (List.mem_filterMap.2 ⟨p,a,k⟩) rfl
 . have:keys (L.set i (b,o')) G=keys L G:=(by unfold keys;congr 1;rw [Ym];refine Xw fun j=>?_;grind);rw [this];exact S.apart
theorem St.stepF(S:St M h0 h L G)(f:Mo (· ∈Fh) h h')(b: ∀c∈Fh,(M c\/h0.n<=c)/\c∉keys L G):St M h0 h' L G:=
 S.step f (fun c a=>(b c a).1) (fun c a d=>(b c d).2 a)
theorem St.permL(S:St M h0 h L G)(p:L'.Perm L):St M h0 h L' G:=
 ⟨S.fr,fun x a=>S.own x (p.mem_iff.1 a),S.gown,by
  have:(keys L' G).Perm (keys L G):=(p.map Xu).append_right _;exact this.nodup_iff.2 S.apart⟩
end
theorem St.mono{M M':Nat->Prop}{h0 h:Hp}{L:List (Nat×Ob)}{G:List GL}(S:St M h0 h L G)(c: ∀b,M b->M' b):St M' h0 h L G:=
 ⟨S.fr.mono c,fun p a=>⟨(S.own p a).1.imp (fun h=>h) (c _),(S.own p a).2⟩,fun p a=>⟨(S.gown p a).1,fun b d=>((S.gown p a).2 b d).imp (fun h=>h) (c _)⟩,S.apart⟩
theorem Dj.exm{B:List Arc}{D:Nat->Nat}{b ex':Arc->Prop}(d:Dj B s N O D K b)(h: ∀a∈B,b a->ex' a):Dj B s N O D K ex':=
 ⟨d.i1,d.i2,d.i2f,d.i3,fun a c e f=>d.i4 a c e (fun g=>f (h a c g)),d.i5,d.nd,d.lt⟩
def noteSl:Value->Option Tch
 | .map (some r)=>some (.blk r)| .slice (some a) _ _=>some (.blk a.block)|_=>none
theorem Bl{b:Bool}{x:Operand}{ts:Array TypeId}:cQ ρ b (.call ⟨.builtin .append,#[x,y],ts⟩) h h'=noteSl (ρ x):=by simp only [cQ,dN,jR,fJ,touch,cond_false];cases ρ x<;>first|rfl|(rename_i x;cases x<;>rfl)|(rename_i x _ _;cases x<;>rfl)
theorem pair_x{x:Option Tch}:jt x none=true:=by
 cases x with
 |none=>rfl|some b=>cases b<;>rfl
theorem entry_nl:cZ i []=none:=rfl
def labC(N:Nat)(L:Nat->Nat):List Value:=(XJ N).map fun v=>.int .i64 (L v:Nat)
def byI:List Nat->Int
 | []=> -1|a::_=>(a:Nat)
def byC(N:Nat)(P:Nat->List Nat):List Value:=(XJ N).map fun v=>.int .i64 (byI (P v))
def clC(N:Nat)(O:List Nat):List Value:=(XJ N).map fun v=>.bool (decide (v∈O))
theorem vz(h:v<N):(labC N L)[v]? =some (.int .i64 (L v:Nat)):=lE (F:=fun v=>Value.int .i64 ((L v:Nat):Int)) h
theorem byC_at{P:Nat->List Nat}(h:v<N):(byC N P)[v]? =some (.int .i64 (byI (P v))):=lE (F:=fun v=>Value.int .i64 (byI (P v))) h
theorem clC_at(h:v<N):(clC N O)[v]? =some (.bool (decide (v∈O))):=lE (F:=fun v=>Value.bool (decide (v∈O))) h
theorem AN:(labC N L).length=N:=by simp [labC]
theorem byC_len{P:Nat->List Nat}:(byC N P).length=N:=by simp [byC]
theorem clC_len:(clC N O).length=N:=by simp [clC]
theorem labC_set{x:Nat}:(labC N L).set v (.int .i64 (x:Nat))=labC N (dU L v x):=by have:=kU (N:=N) (k:=v) (F:=fun v=>Value.int .i64 ((L v:Nat):Int)) (F':=fun u=>Value.int .i64 ((dU L v x u:Nat):Int)) (fun i _ a=>by simp [dU,a]);unfold labC;rw [<-this];simp [dU]
theorem byC_set{P:Nat->List Nat}{p:List Nat}:(byC N P).set v (.int .i64 (byI p))=byC N (mS P v p):=by have:=kU (N:=N) (k:=v) (F:=fun v=>Value.int .i64 (byI (P v))) (F':=fun u=>Value.int .i64 (byI (mS P v p u))) (fun i _ a=>by simp [mS,a]);unfold byC;rw [<-this];simp [mS]
theorem clC_set:(clC N O).set v (.bool true)=clC N (O++[v]):=by have:=kU (N:=N) (k:=v) (F:=fun v=>Value.bool (decide (v∈O))) (F':=fun u=>Value.bool (decide (u∈O++[v]))) (fun i _ a=>by simp [a]);unfold clC;rw [<-this];simp
def srL(br c d e N:Nat)(pn p a b vE:Value)(σ:SS):List (Nat×Ob):=
 [(br,.row [pn,p,.slice (some ⟨c,0,none⟩) N N,.slice (some ⟨d,0,none⟩) N N,.slice (some ⟨e,0,none⟩) N N,a,b,vE] 1),(c,.row (labC N σ.L) 1),(d,.row (byC N σ.P) 1),(e,.row (clC N σ.O) 1)]
def srG(vE:Value)(σ:SS):List GL:=[(vE,4,σ.ev.flatMap iQ)]
def iF(h:Hp)(B:List Nat)(br:Nat)(pn a b:Value)(N:Nat)(σ:SS):Prop:=
 ∃e f g p F d,B=keys (srL br e f g N pn (ptrTo p) a b d σ) (srG d σ)++F/\(∀q∈srL br e f g N pn (ptrTo p) a b d σ,Has h q.1 q.2)/\ia h (d,4,σ.ev.flatMap iQ)/\(keys (srL br e f g N pn (ptrTo p) a b d σ) (srG d σ)).Nodup/\cE h F (ptrTo p) N σ.K/\ ∀c∈F,c∉keys (srL br e f g N pn (ptrTo p) a b d σ) (srG d σ)
theorem St.ofHas{L:List (Nat×Ob)}{G:List GL}(e:OZ h)(f: ∀q∈L,Has h q.1 q.2)(g: ∀p∈G,ia h p)(i:(keys L G).Nodup)(d: ∀c∈keys L G,M c):St M h h L G:=
 ⟨Mo.refl e,fun p a=>⟨.inr (d _ (iP a)),f p a⟩,fun p a=>⟨g p a,fun b j=>.inr (d _ (fk a j))⟩,i⟩
theorem iF.mo{M:Nat->Prop}{h h':Hp}{B:List Nat}{br N:Nat}{pn a c:Value}{σ:SS}(r:iF h B br pn a c N σ)(g:Mo M h h')(e: ∀b∈B,¬M b):iF h' B br pn a c N σ:=by obtain⟨k,l,m,p,F,f,rfl,n,i,o,s,t⟩:=r;refine⟨k,l,m,p,F,f,rfl,fun q j=>g.has (n q j) (e _ (Xe _ (iP j))),i.of_get fun b d=>g.get b (i.lt g.ok0 d) (e b (Xe _ (fk (p:=(f,4,σ.ev.flatMap iQ)) m0 d))),o,s.mo g (fun b d=>e b (Xl _ d)),t⟩
theorem iF.gr{a b:Value}(r:iF h B br pn a b N σ)(g:Gr h h'):iF h' B br pn a b N σ:=r.mo (M:=NoM) g.fr (fun _ _ h=>h)
theorem iF.lt{h:Hp}(e:OZ h){B:List Nat}{br N:Nat}{pn b d:Value}{σ:SS}(r:iF h B br pn b d N σ): ∀c∈B,c<h.n:=by
 obtain⟨l,m,n,p,F,o,rfl,f,g,i,j,q⟩:=r;intro c a;rcases List.mem_append.1 a with a|a
 . exact(St.ofHas (M:=fun _=>True) e f (fun p k=>by cases k with|head=>exact g|tail _ h=>cases h) i (fun _ _=>trivial)).key_lt a
 . exact j.lt e c a
theorem Gr.mo'(g:Gr hq h)(f:Mo (· ∈B) h h')(hB: ∀c∈B,hq.n<=c):Gr hq h':=((g.fr (M:=NoM)).trans f (fun i a=>.inr (hB i a))).gr
def PiF(E:Env)(hq:Hp)(g:FuncId)(a N:Nat)(pi:Nat->Int):Prop:= ∀h,Gr hq h-> ∀v,v<N->aO E g [.int .i64 (v:Nat),ptrTo a] h (.int .i64 (pi v))
def AlF(E:Env)(hq:Hp)(g:FuncId)(b n:Nat)(al:Nat->Bool):Prop:= ∀h,Gr hq h-> ∀a,a<n->aO E g [.int .i64 (a:Nat),ptrTo b] h (.bool (al a))
theorem Af  (gq:Gr hq h0)  {w lab:Nat} {p:List Nat} {x:FuncId} {f:Value}   (R:iF h0 B br pn f (.func (.func x) #[] #[ptrTo w]) N σ) (ad:PiF zM hq x w N pi) (hN:N<=12) (j:v<N) (hl:lab<=12*cH)
 (hp: -(FAR:Int)<=pi v) (hk: ∀k,σ.K v=some k->k=σ.L v+pi v):
 Ret zM 199 [ptrTo br,.int .i64 (v:Nat),.int .i64 (lab:Nat),.int .i64 (byI p)] h0 fun _ h'=>Mo (· ∈B) h0 h'/\ ∃C,iF h' C br pn f (.func (.func x) #[] #[ptrTo w]) N (iL pi σ v lab p)/\ ∀c∈C,c∈B\/h0.n<=c:=by
 have ok:=gq.ok;have R0:=R;obtain⟨s,u,y,D,F,t,rfl,hL,hG,nd,H,X⟩:=R;have S:=St.ofHas (M:=fun c=>c∈keys (srL br s u y N pn (ptrTo D) f (.func (.func x) #[] #[ptrTo w]) t σ) (srG t σ)++F) ok hL (fun p hp=>by cases hp with|head=>exact hG|tail _ h=>cases h) nd (fun c a=>Xe _ a);have fr:=gQ;have wm:=jP;have l:iL pi σ v lab p=σ-> ∀h,Gr h0 h->Mo (· ∈keys (srL br s u y N pn (ptrTo D) f (.func (.func x) #[] #[ptrTo w]) t σ) (srG t σ)++F) h0 h/\ ∃C,iF h C br pn f (.func (.func x) #[] #[ptrTo w]) N (iL pi σ v lab p)/\ ∀c∈C,c∈keys (srL br s u y N pn (ptrTo D) f (.func (.func x) #[] #[ptrTo w]) t σ) (srG t σ)++F\/h0.n<=c:=
  fun e h g=>⟨g.fr,_,by rw [e];exact R0.gr g,fun c a=>.inl a⟩
 generalize E:keys (srL br s u y N pn (ptrTo D) f (.func (.func x) #[] #[ptrTo w]) t σ) (srG t σ)++F=Y at S l;have Q: ∀c∈F,c∈Y\/h0.n<=c:=fun c a=>.inl (by rw [<-E];exact Xl _ a);unfold srL srG at S;have lF:=H.lt ok;have ll:=fun {b} hb=>S.key_lt (b:=b) hb;refine aa (n:=86) (rs:=[]) rfl Tryz.e199 rfl rfl rfl (lbt rfl) ?_;simp only [BZ,S.ld (b:=br) (o:=6) m0 rfl,seval];refine ag (ad _ gq v j) ?_;intro h g;replace S:=S.call g;replace H:=H.gr g;simp only [BZ,S.ld (b:=br) (o:=1) m0 rfl,seval];refine ag (yO S.ok H) ?_;intro h' Z;replace S:=S.call Z;replace H:=H.gr Z;replace g:=g.trans Z;clear Z h;have n0:=g.n;have G:=(S.row (b:=y) m3).load1 (clC_at (O:=σ.O) j);have lL:=(S.row (b:=s) m1).load1 (vz (L:=σ.L) j);by_cases hO:v∈σ.O
 . have K:decide (v∈σ.O)=true:=decide_eq_true hO;simp only [BZ,j,G,K,S.ld (b:=br) (o:=4) m0 rfl,S.ld (b:=br) (o:=2) m0 rfl,seval];exact l (by unfold iL;rw [if_pos (.inl hO)]) _ g
 . have K:decide (v∈σ.O)=false:=decide_eq_false hO;by_cases U:(FAR:Int)<=pi v
   . have V:(72057594037927936:Int)<=pi v:=(by omega);simp only [BZ,j,G,K,V,S.ld (b:=br) (o:=4) m0 rfl,S.ld (b:=br) (o:=2) m0 rfl,seval];exact l (by unfold iL;rw [if_pos (.inr (.inl U))]) _ g
   . have V: ¬(72057594037927936:Int)<=pi v:=(by omega);have wl:an .i64 ((lab:Int)+pi v)=(lab:Int)+pi v:=(by rw [wrap64]<;>omega);have W: ¬((σ.K v).isSome=true/\σ.L v<=lab)-> ∀(h':Hp) (m:List Nat),St (· ∈Y) h0 h' [(br,.row [pn,ptrTo D,.slice (some ⟨s,0,none⟩) N N,.slice (some ⟨u,0,none⟩) N N,.slice (some ⟨y,0,none⟩) N N,f,.func (.func x) #[] #[ptrTo w],t] 1),(s,.row ((labC N σ.L).set v (.int .i64 (lab:Nat))) 1),(u,.row ((byC N σ.P).set v (.int .i64 (byI p))) 1),(y,.row (clC N σ.O) 1)] [(t,4,σ.ev.flatMap iQ)]->
      cE h' m (ptrTo D) N (dp σ.K v (some ((lab:Int)+pi v)))->(∀c∈m,c∈F\/h0.n<=c)->Mo (· ∈Y) h0 h'/\ ∃C,iF h' C br pn f (.func (.func x) #[] #[ptrTo w]) N (iL pi σ v lab p)/\ ∀c∈C,c∈Y\/h0.n<=c:=by
      intro a h' m T H' d;rw [labC_set,byC_set]at T;refine⟨T.fr,keys (srL br s u y N pn (ptrTo D) f (.func (.func x) #[] #[ptrTo w]) t σ) (srG t σ)++m,?_,fun c a=>?_⟩
      . unfold iL;rw [if_neg (by simp only [not_or];exact⟨hO,U,a⟩)];refine⟨s,u,y,D,m,t,rfl,fun q hq=>(T.own q hq).2,(T.gown _ m0).1,T.apart,H',fun c a hm=>?_⟩;rcases d c a with z|z
        . exact X c z hm
        . have:=ll (b:=c) hm;omega
      . rcases List.mem_append.1 a with a|a
        . exact .inl (by rw [<-E];exact Xe _ a)
        . rcases d c a with z|z
          . exact .inl (by rw [<-E];exact Xl _ z)
          . exact .inr z
     have A: ∀m:List Nat,(∀c∈m,c∈F\/h0.n<=c)-> ∀c∈m,¬(c=s)/\ ¬(c=u):=fun m h c a=>by
      rcases h c a with z|z
      . have:=X c z;simp [srL,keys]at this;exact⟨this.2.1,this.2.2.1⟩
      . have h2:=ll (b:=s) (by simp [keys]);have h3:=ll (b:=u) (by simp [keys]);exact⟨fun e=>by omega,fun e=>by omega⟩
     have ap:=S.apart;have n1:br≠s:=fun e=>(by subst e;simp [keys]at ap);have n2:br≠u:=fun e=>(by subst e;simp [keys]at ap);have n3:s≠u:=fun e=>(by subst e;simp [keys]at ap);clear ap;cases P:σ.K v with
     | none=>
       simp only [BZ,j,G,K,V,Xz,Xj,wl,S.ld (b:=br) (o:=4) m0 rfl,S.ld (b:=br) (o:=2) m0 rfl,S.ld (b:=br) (o:=1) m0 rfl,seval];refine step_ret (pH S.ok H j (by omega) P) ?_;rintro r h2 ⟨f2,m,H2,d⟩;replace S:=S.stepF f2 (fun c a=>⟨Q c a,X c a⟩);replace d: ∀c∈m,c∈F\/h0.n<=c:=fun c a=>(d c a).imp (fun h=>h) (fun h=>Xk n0 h);clear G lL;simp only [BZ];refine ao (av rfl) (q:=0) (ps:=[]) (by kernel_rfl) ?_;simp only [BZ,cls,j,S.ld (b:=br) (o:=2) m0 rfl,S.ld (b:=br) (o:=3) m0 rfl,seval];refine cM (aE S (i:=1) rfl Tryz.t2.2.2.1 aZ (by rw [AN];exact j) ono) ?_;clear S;rintro h3 ⟨S,I⟩;simp only [LC]at S;simp only [BZ,cls,j,seval];refine cM (aE S (i:=2) rfl Tryz.t3.2.2.1 aZ (by rw [byC_len];exact j) ono) ?_;clear S;rintro h4 ⟨S,J⟩;simp only [LC]at S;simp only [BZ,seval];exact W (by rw [P];simp) _ m S ((H2.mo I (fun c a=>(A m d c a).1)).mo J (fun c a=>(A m d c a).2)) d
     | some k=>
       have ek:=hk k P;by_cases hle:σ.L v<=lab
       . have c2:(σ.L v:Int)<=(lab:Int):=(by omega);simp only [BZ,j,G,K,lL,V,Xt,c2,S.ld (b:=br) (o:=4) m0 rfl,S.ld (b:=br) (o:=2) m0 rfl,seval];exact l (by unfold iL;rw [if_pos (.inr (.inr ⟨by rw [P];rfl,hle⟩))]) _ g
       . have c2: ¬(σ.L v:Int)<=(lab:Int):=(by omega);simp only [BZ,j,G,K,lL,V,Xt,c2,wl,S.ld (b:=br) (o:=4) m0 rfl,S.ld (b:=br) (o:=2) m0 rfl,S.ld (b:=br) (o:=1) m0 rfl,seval];refine step_ret (qT S.ok H (by omega) P (k:=(lab:Int)+pi v) (by omega)) ?_;rintro r h2 ⟨f2,H2⟩;replace S:=S.stepF f2 (fun c a=>⟨Q c a,X c a⟩);have d: ∀c∈F,c∈F\/h0.n<=c:=fun c a=>.inl a;clear G lL;simp only [BZ];refine ao (av rfl) (q:=0) (ps:=[]) (by kernel_rfl) ?_;simp only [BZ,cls,j,S.ld (b:=br) (o:=2) m0 rfl,S.ld (b:=br) (o:=3) m0 rfl,seval];refine cM (aE S (i:=1) rfl Tryz.t2.2.2.1 aZ (by rw [AN];exact j) ono) ?_;clear S;rintro h3 ⟨S,I⟩;simp only [LC]at S;simp only [BZ,cls,j,seval];refine cM (aE S (i:=2) rfl Tryz.t3.2.2.1 aZ (by rw [byC_len];exact j) ono) ?_;clear S;rintro h4 ⟨S,J⟩;simp only [LC]at S;simp only [BZ,seval];exact W (by rw [P];simp;omega) _ F S ((H2.mo I (fun c a=>(A F d c a).1)).mo J (fun c a=>(A F d c a).2)) d
theorem iF.close{g:Nat}{a b vE:Value}(S:St M h0 h (srL br e f g N pn (ptrTo d) a b vE σ) (srG vE σ))(H:cE h F (ptrTo d) N σ.K)(i: ∀c∈F,c∉keys (srL br e f g N pn (ptrTo d) a b vE σ) (srG vE σ)):
 iF h (keys (srL br e f g N pn (ptrTo d) a b vE σ) (srG vE σ)++F) br pn a b N σ:=
 ⟨e,f,g,d,F,vE,rfl,fun q j=>(S.own q j).2,(S.gown _ m0).1,S.apart,H,i⟩
theorem iF.open(i:OZ h){a b:Value}(r:iF h B br pn a b N σ): ∃e f g d F vE,B=keys (srL br e f g N pn (ptrTo d) a b vE σ) (srG vE σ)++F/\St (· ∈B) h h (srL br e f g N pn (ptrTo d) a b vE σ) (srG vE σ)/\cE h F (ptrTo d) N σ.K/\ ∀c∈F,c∉keys (srL br e f g N pn (ptrTo d) a b vE σ) (srG vE σ):=by obtain⟨e,f,g,d,F,vE,rfl,j,k,l,m,n⟩:=r;exact⟨e,f,g,d,F,vE,rfl,St.ofHas i j (fun p o=>by cases o with|head=>exact k|tail _ h=>cases h) l (fun c q=>Xe _ q),m,n⟩
theorem Cs(pi:Nat->Int)(σ:SS)(v lab:Nat)(p:List Nat):(iL pi σ v lab p).ev=σ.ev:=by unfold iL;split<;>rfl
theorem BE(A:List Arc)(al:Nat->Bool)(pi:Nat->Int)(v:Nat)(σ:SS)(a:Nat):(scan1 A al pi v σ a).ev.length<=σ.ev.length+1:=by
 unfold scan1
 split
 . rw [Cs];simp [evS]
 . omega
theorem sscan_ok  (bf:OZ hq) (gq:Gr hq h0) {d:Gra} (y:Good d) {nb D:Nat} (hn:aS hq nb (ptrTo D) d)   {J K:FuncId}  {al:Nat->Bool}  (R:iF h0 B br (ptrTo D) (.func (.func J) #[] #[ptrTo u]) (.func (.func K) #[] #[ptrTo u]) d.nodes σ) (hB: ∀c∈B,hq.n<=c) (aL:AlF zM hq J u d.arcs.length al) (a0:PiF zM hq K u d.nodes pi) (hp: ∀v,v<d.nodes-> -(FAR:Int)<=pi v)
 (hv:v<d.nodes) (sv:Sv d.arcs d.nodes s al pi σ) (rm:Room σ v) (he:σ.ev.length<=10000):
 Ret zM 202 [ptrTo br,.int .i64 (v:Nat)] h0 fun _ h'=>Mo (· ∈B) h0 h'/\ ∃z,iF h' z br (ptrTo D) (.func (.func J) #[] #[ptrTo u]) (.func (.func K) #[] #[ptrTo u]) d.nodes (tg d.arcs al pi v σ)/\ ∀c∈z,c∈B\/h0.n<=c:=by
 have ok:=gq.ok;have n1:=y.n1;have n2:=y.n2;have wm:=jP;have hA: ∀a∈d.arcs,a.t<d.nodes/\a.w<=cH:=fun a E=>⟨(y.arcs a E).2.1,(y.arcs a E).2.2⟩;have l0:h0.load br 0 1=some [ptrTo D]:=by obtain⟨T,V,W,X,F,vE,rfl,C,_⟩:=R;exact Row.load1 (show Row h0 br _ 1 from C _ m0) (o:=0) rfl
 have S:=Si ok;refine aa (n:=62) (rs:=[]) rfl Tryz.e202 rfl rfl rfl (lbt rfl) ?_;simp only [BZ,l0,seval];refine step_ret (uw S.ok (hn.gr gq) (by have:=y.many;omega) hv) ?_;rintro vl C ⟨g,sl,r⟩;have lB:=R.lt ok;have R1:=R.gr g;have a1:=g.ok;have ol:=kI d.arcs Arc.s d.arcs.length v;have bc:=y.many;have bh:=g.n;simp only [BZ,sl.lenq,seval];refine aW (fun(i:Nat) U h=>i<=(outs d.arcs Arc.s d.arcs.length v).length/\ ∃z,Mo (· ∈B) C h/\iF h z br (ptrTo D) (.func (.func J) #[] #[ptrTo u]) (.func (.func K) #[] #[ptrTo u]) d.nodes (((outs d.arcs Arc.s d.arcs.length v).take i).foldl (scan1 d.arcs al pi v) σ)/\(∀c∈z,c∈B\/C.n<=c)/\
  U 0=ptrTo br/\U 1=.int .i64 (v:Nat)/\U 13=vl/\U 14=.int .i64 ((outs d.arcs Arc.s d.arcs.length v).length:Nat)/\U 15=.int .i64 i) (fun i=>(outs d.arcs Arc.s d.arcs.length v).length-i) ?_ 0 _ _ ?_
 . clear S l0;intro i ih U hS ⟨hi,z,f,R',hB',r0,r1,r13,r14,r15⟩;by_cases hlt:i<(outs d.arcs Arc.s d.arcs.length v).length
   . have a2: ∀c∈z,hq.n<=c:=fun c r=>(hB' c r).elim (hB c) (fun h=>by have:=gq.n;omega);have gh:Gr hq hS:=(gq.trans g).mo' f hB;have a3:=sl.mo f (fun b hb N=>by have:=r b hb;have:=lB b N;omega);obtain⟨c,o,Y,Z⟩:=a3.ix (kd:=.i64) dC hlt;have N:=mg.1 (XA hlt);have w:an .i64 ((i:Int)+1)=((i+1:Nat):Int):=(by rw [wrap64]<;>omega);have a4: ∀a∈(outs d.arcs Arc.s d.arcs.length v).take i,a<d.arcs.length/\(d.arcs.getD a default).s=v:=fun a E=>mg.1 (Ya E);obtain⟨P,ki⟩:=Sv.scanL hA _ sv rm a4;have ad:=rm.keeps ki;have a5:(((outs d.arcs Arc.s d.arcs.length v).take i).foldl (scan1 d.arcs al pi v) σ).ev.length<=10000+i:=by
      have: ∀(l:List Nat) (σ:SS),(l.foldl (scan1 d.arcs al pi v) σ).ev.length<=σ.ev.length+l.length:=by
       intro l
       induction l with
       |nil=>intro σ;simp|cons a l ih=>intro σ;have C:=ih (scan1 d.arcs al pi v σ a);have h2:=BE d.arcs al pi v σ a;simp only [List.foldl_cons,List.length_cons];omega
      have C:=this ((outs d.arcs Arc.s d.arcs.length v).take i) σ;rw [Xy]at C;omega
     have tk:(outs d.arcs Arc.s d.arcs.length v).take (i+1)=(outs d.arcs Arc.s d.arcs.length v).take i++[(outs d.arcs Arc.s d.arcs.length v)[i]]:=(by rw [List.take_add_one,Xb hlt];rfl);have G:((outs d.arcs Arc.s d.arcs.length v).take (i+1)).foldl (scan1 d.arcs al pi v) σ=scan1 d.arcs al pi v (((outs d.arcs Arc.s d.arcs.length v).take i).foldl (scan1 d.arcs al pi v) σ) (outs d.arcs Arc.s d.arcs.length v)[i]:=(by rw [tk,List.foldl_append];rfl);generalize(((outs d.arcs Arc.s d.arcs.length v).take i).foldl (scan1 d.arcs al pi v) σ)=t at R' P ki ad a5 G;generalize(outs d.arcs Arc.s d.arcs.length v)[i]=a at N Z G;obtain⟨E,bi⟩:=N;obtain⟨T,V,W,X,F,vE,Q,S,H,hF⟩:=R'.open f.ok;have bm:=R'.lt f.ok;have I: ∀c∈keys (srL br T V W d.nodes (ptrTo D) (ptrTo X) (.func (.func J) #[] #[ptrTo u]) (.func (.func K) #[] #[ptrTo u]) vE t) (srG vE t),c∈z:=fun c r=>(by rw [Q];exact Xe _ r);have a6: ∀c∈F,c∈z:=fun c r=>(by rw [Q];exact Xl _ r);have lF:=H.lt f.ok;replace S:=S.base;generalize bn:keys (srL br T V W d.nodes (ptrTo D) (ptrTo X) (.func (.func J) #[] #[ptrTo u]) (.func (.func K) #[] #[ptrTo u]) vE t) (srG vE t)=KK at S I hF Q;unfold srL srG at S;simp only [BZ,r0,r13,r14,r15,aF,hlt,Y,Z,bK,S.ld (b:=br) (o:=5) m0 rfl,seval];refine ag (aL _ gh a E) ?_;intro h' g';replace S:=S.call g';have bo:=g'.n;cases O:al a with
     | false=>
       simp only [BZ,r15,w,seval];refine ih (i+1) _ _ (by omega) ⟨by omega,z,f.trans (M':=NoM) g'.fr (fun _ h=>h.elim),?_,hB',by simp [aB,r0,ah,r1,r13,r14]⟩;rw [G];unfold scan1;rw [O,if_neg Bool.false_ne_true];exact R'.gr g'
     | true=>
       have bq:Fl vE:=(S.gown _ m0).1.fl;simp only [BZ,r0,S.ld (b:=br) (o:=7) m0 rfl,seval];refine ac (ce (by exact Tryz.t44.1) (by exact Tryz.e143E) (by decide) (by rfl)) S ?_;clear S;intro h bs S bd;simp only [LC,bH,cg,ae,Xx,Xo,Xn,XC,seval]at S;simp only [BZ,seval];have af:aK h 4 (.slice (some ⟨bs,0,none⟩) 1 1)=some (1,iQ ⟨1,a,0⟩):=(by simp only [aK];rw [S.lds (b:=bs) (o:=0) (n:=1*4) m0 (lbt rfl)];rfl);replace S:=S.drop1;refine dE (S.grow (j:=0) (m:=1) (new:=iQ ⟨1,a,0⟩) rfl Tryz.t44.1 Tryz.e143E (by decide) Tryz.t44.2.2.2.2.2 af rfl (by decide) rfl (by rw [cB qS];show(_+4)*_<=_;omega)) ?_;clear S af;rintro h2 A S;simp only [LC]at S;have ai:Fl A:=(S.gown _ m0).1.fl;simp only [BZ,seval];refine aC (aE S (i:=0) rfl Tryz.t44.2.2.1 ai (Xg (lbt rfl)) ono) ?_;clear S;rintro h3 ⟨S,_⟩;simp only [LC]at S;have eE:(t.ev++[(⟨1,a,0⟩:Ev)]).flatMap iQ=t.ev.flatMap iQ++iQ ⟨1,a,0⟩:=(by rw [Ye];simp);rw [<-eE]at S;simp only [BZ,r0,S.ld (b:=br) (o:=0) m0 rfl,seval];have ak: ∀c∈KK,hq.n<=c:=fun c r=>a2 c (I c r);refine step_ret (ku S.ok (hn.gr (gh.mo' S.fr ak)) E) ?_;rintro rv h4 ⟨g4,rfl⟩;replace S:=S.call g4;clear g4;have ga:d.arcs[a]=d.arcs.getD a default:=(by simp [Xa,E]);have ax:=hA (d.arcs.getD a default) (by rw [<-ga];exact XA E);have lv:=ad.2.1;have bt:t.O.length*cH<=12*cH:=Nat.mul_le_mul_right _ (Xk P.len n2);rw [ga];simp only [BZ,c7,seval];refine ac aA S ?_;clear S;intro h b6 S be;simp only [BZ,seval];refine aC (S.store (i:=0) rfl ?_ ?_ rfl rfl ?_ ono) ?_
       . exact(by exact Tryz.t135.2.1)
       . exact(by intro x e;cases e)
       . exact lbt rfl
       clear S;rintro h ⟨S,mo⟩;clear mo;simp only [LC,ae,lay,Xq,Xr,seval]at S;simp only [BZ,seval];have lL:=(S.row (b:=T) m2).load1 (vz (L:=t.L) hv);have wn:an .i64 ((t.L v:Int)+((d.arcs.getD a default).w:Int))=((t.L v+(d.arcs.getD a default).w:Nat):Int):=(by rw [wrap64]<;>omega);refine ao (av rfl) (q:=0) (ps:=[]) (by kernel_rfl) ?_;simp only [BZ,cls,r0,r1,wn,hv,lL,S.ld (b:=br) (o:=2) m1 rfl,S.ld (b:=b6) (o:=1) m0 rfl,S.ld (b:=b6) (o:=2) m0 rfl,seval];have kn:=fun c r=>(S.key_own (b:=c) r).symm;have kf:=S.fr;have gx:=gh.mo' S.fr ak;have a7: ∀c∈F,c∉keys (srL br T V W d.nodes (ptrTo D) (ptrTo X) (.func (.func J) #[] #[ptrTo u]) (.func (.func K) #[] #[ptrTo u]) A (evS t ⟨1,a,0⟩)) (srG A (evS t ⟨1,a,0⟩)):=fun c r N=>by
        rcases kn c (Yc _ N)with C|C
        . exact hF c r C
        . have:=lF c r;omega
       have R2:=iF.close (σ:=evS t ⟨1,a,0⟩) (vE:=A) S.drop1 (H.mo kf (fun c r N=>hF c r N)) a7;have ay: ∀c∈keys (srL br T V W d.nodes (ptrTo D) (ptrTo X) (.func (.func J) #[] #[ptrTo u]) (.func (.func K) #[] #[ptrTo u]) A (evS t ⟨1,a,0⟩)) (srG A (evS t ⟨1,a,0⟩))++F,c∈z\/hS.n<=c:=fun c r=>by
        rcases List.mem_append.1 r with r|r
        . exact(kn c (Yc _ r)).imp (I c) (fun h=>h)
        . exact .inl (a6 c r)
       refine bU (Af (p:=a::t.P v) (lab:=t.L v+(d.arcs.getD a default).w) gx R2 a0 n2 ax.1 (by omega) (hp _ ax.1) (fun k hk=>(P.op _ k hk).2.2.2)) ?_;rintro rv h5 ⟨f5,B3,R3,a8⟩;simp only [BZ,r15,w,seval];have nh:=f.n;have nx:=kf.n;have gB: ∀c,c∈z\/hS.n<=c->c∈B\/C.n<=c:=fun c r=>r.elim (hB' c) (fun h=>.inr (by omega));refine ih (i+1) _ _ (by omega) ⟨by omega,B3,(f.trans kf (fun c r=>gB c (.inl (I c r)))).trans f5 (fun c r=>gB c (ay c r)),?_,fun c r=>gB c ((a8 c r).elim (ay c) (fun h=>.inr (by omega))),by simp [aB,r0,ah,r1,r13,r14]⟩;rw [G];unfold scan1;rw [O,if_pos rfl];exact R3
   . have ei:i=(outs d.arcs Arc.s d.arcs.length v).length:=(by omega);simp only [BZ,r14,r15,aF,hlt,seval];refine⟨(g.fr (M:=(· ∈B))).trans f (fun c r=>.inl r),z,?_,fun c r=>(hB' c r).imp (fun h=>h) (fun h=>by omega)⟩;rw [ei,List.take_length]at R';exact R'
 . exact⟨XM _,B,Mo.refl a1,R1,fun c r=>.inl r,by simp [aB,cG,ah,dr]⟩
def vb(E:Env)(g:FuncId)(post:List Value)(h0:Hp)(D W:Nat->Prop)(xs:List (List Value)):Prop:=
 ∀a J Z,(∀v h,¬Z (.pan v) h)->Yld E a J Z xs->(∀i h F c,J i h F->Mo W h c->J i c F)-> ∀h F,ItS h0 D h F->(∀b,W b->h.get b=h0.get b)->(∀b∈F,¬W b)->J 0 h F->ey E g ([]++[.func (.yield a) #[] #[]]++post) none h (YQ J Z xs.length)
theorem iter_w{post:List Value}{xs:List (List Value)}(H:mJ E g [] post h0 D xs):vb E g post h0 D NoM xs:=fun a J Z b Y _ h F s _ _ c=>H a J Z b Y h F s c
theorem nu(l:List Nat):(l.flatMap bK).length=l.length:=by rw [cB dC];omega
theorem mD{p:GL}(g:ia h p)(a:aq p.1 c):eo p=some c:=by
 rcases g with⟨e,_⟩|⟨b,n,e,_⟩
 . rw [e]at a;exact a.elim
 . obtain⟨v,k,d⟩:=p;simp only []at e a;subst e;exact congrArg some a
theorem AI(Y:OZ h0){post:Array Value}{W:Nat->Prop}(Z:vb zM g post.toList h0 D W (xs.map fun(x:Nat)=>[.int .i64 x]))(I: ∀b,W b->b<h0.n)(hn:xs.length<100000):
 Ret zM 155 [.slice none 0 0,.func (.func g) #[] post] h0 fun r h'=>Mo W h0 h'/\ia h' (r,1,xs.flatMap bK)/\ ∀c,aq r c->h0.n<=c:=by
 have S:=Si Y;refine aa (n:=13) (rs:=[.tmp 4]) rfl Tryz.e155 rfl rfl rfl (lbt rfl) ?_;simp only [BZ,seval];refine ac (bJ (by exact aU)) S ?_;clear S;intro h l S t;simp only [BZ,if_false,seval];replace S:=S.nilG (k:=1);have J:=S.gr;replace S:=S.monoM (M:=W);have C:=S.fr;refine iz S (g:=g) (a:=#[]) (b:=post) (by simp [bF,aB,cG,dr]) rfl rfl ?_;intro E u s p ad af K;obtain⟨X,N,p⟩: ∃X:fS,X=_/\St W h0 E [(s,.loop X),(u,.dfr),(l,.row [.slice none 0 0] 1)] [(.slice none 0 0,1,[])]:=⟨_,rfl,p⟩;have O: ∀c,h0.n<=c-> ¬W c:=fun c h G=>by have:=I c G;omega
 have hJ:Yld zM s (fun k h' F=> ∃(e:Value),St W h0 h' [(s,.loop X),(u,.dfr),(l,.row [e] 1)] [(e,1,(xs.take k).flatMap bK)]/\k<=xs.length/\(∀c∈F,h0.n<=c)/\F=keys [(s,.loop X),(u,.dfr),(l,.row [e] 1)] [(e,1,(xs.take k).flatMap bK)]) (fun _ _=>False) (xs.map fun(x:Nat)=>[.int .i64 x]):=by
  refine⟨?_,?_,fun _ _ h=>h.elim,?_⟩
  . rintro i h F ⟨e,S,_,_,rfl⟩;exact⟨S.ok,fun b f=>S.key_lt f⟩
  . rintro i h F h' ⟨e,S,a,b,rfl⟩ B;exact⟨e,S.call B,a,b,rfl⟩
  . rintro i x hR F v ⟨e,S,a,b,rfl⟩;have w:i<xs.length:=(by have:=(List.getElem?_eq_some_iff.1 v).1;simpa using this);rw [Xp,Xb w]at v;cases v;have tk:(xs.take (i+1)).flatMap bK=(xs.take i).flatMap bK++[.int .i64 (xs[i]:Nat)]:=(by rw [List.take_add_one,Xb w,Ye];rfl);have tl:(xs.take i).length<=i:=(by rw [Xy];omega);subst N;refine iw (S.get m0) (by rw [Tryz.e155];rfl) rfl ?_;have P:=S;replace S:=S.base;simp only [BZ,seval];refine gC S (i:=0) rfl rfl rfl rfl rfl ?_;clear S;intro h S;simp only [LC]at S;simp only [BZ,S.ld (b:=l) (o:=0) m2 rfl,seval];refine ac (ce (by exact Tryz.t41.1) (by exact XO) (by decide) (by rfl)) S ?_;clear S;intro h Q S R;simp only [LC,bH,cg,ae,Xx,Xo,Xn,XC,seval]at S;simp only [BZ,seval];have z:aK h 1 (.slice (some ⟨Q,0,none⟩) 1 1)=some (1,[.int .i64 (xs[i]:Nat)]):=(by simp only [aK];rw [S.lds (b:=Q) (o:=0) (n:=1*1) m0 (lbt rfl)];rfl);replace S:=S.drop1;refine dE (S.grow (j:=0) (m:=1) (new:=[.int .i64 (xs[i]:Nat)]) rfl Tryz.t41.1 XO (by decide) Tryz.t41.2.2.2.2.2 z rfl (by decide) rfl (by rw [nu];simp;omega)) ?_;clear S z;rintro h A S;simp only [LC]at S;have fv:Fl A:=(S.gown _ m0).1.fl;simp only [BZ,seval];refine aC (aE S (i:=2) rfl Tryz.t41.2.2.1 fv (Xg (lbt rfl)) ono) ?_;clear S;rintro h ⟨S,_⟩;simp only [LC]at S;simp only [BZ];refine dV S (i:=0) rfl ?_;clear S;intro h S;simp only [LC]at S;rw [<-tk]at S;have H:=P.rebase S;refine .inl ⟨rfl,_,⟨A,H,by omega,fun c d=>?_,rfl⟩,S.fr,fun c d=>(S.key_own d).symm⟩;rcases S.key_own d with U|U
    . have:=P.fr.n;omega
    . exact b c U
 have q: ∀c∈keys [(s,Ob.loop X),(u,.dfr),(l,.row [.slice none 0 0] 1)] [(.slice none 0 0,1,[])],h0.n<=c:=fun c d=>by have n2:=t;have:=C.n;simp [keys,eo]at d;omega
 refine cK (Z s _ _ (fun _ _ h=>h) hJ ?_ E _ ?_ ?_ (fun c d=>O c (q c d)) ⟨_,p,XM _,q,rfl⟩) fun o rc h' y=>jx y ?_
 . rintro i h F h' ⟨e,S,a,b,rfl⟩ B;exact⟨e,S.step B (fun c d=>.inl d) (fun c d G=>O c (b c d) G),a,b,rfl⟩
 . have B:Mo W h0 E:=p.fr;exact⟨p.ok,p.fr.n,fun b f _=>(J.trans K).get b f,fun b f h=>by have:=q b f;omega,fun b f=>p.key_lt f⟩
 . exact fun b f=>(J.trans K).get b (I b f)
 . rintro F ⟨e,T,a,b,rfl⟩;rw [X6,List.take_length]at T b;subst N;refine⟨_,T.get m0,Nat.zero_ne_one,?_⟩;replace T:=T.dead;have S:=T;show Run _ _ _ _ _ _ _ _;simp only [BZ,S.ld (b:=l) (o:=0) m1 rfl,seval];refine dq (ij [u] _ (L:=[(l,_)]) T.base fun h3 V=>⟨rfl,_,rfl,?_⟩);refine⟨(T.fr.trans V.fr (fun c d=>(T.key_own d).symm):Mo W h0 h3),(V.gown _ m0).1,fun x v=>?_⟩;refine b x ?_;have:eo (e,1,xs.flatMap bK)=some x:=mD (T.gown _ m0).1 v;exact fk m0 this
theorem sb(a:OZ h0){post:Array Value}{W:Nat->Prop}(d:vb zM g post.toList h0 D W (xs.map fun(x:Nat)=>[.int .i64 x]))(e: ∀b,W b->b<h0.n)(i:xs.length<100000):
 Ret zM 64 [.func (.func g) #[] post] h0 fun r h'=>Mo W h0 h'/\ia h' (r,1,xs.flatMap bK)/\ ∀c,aq r c->h0.n<=c:=by
 have S:=Si a;refine aa (n:=5) (rs:=[.tmp 2]) rfl Tryz.e64 rfl rfl rfl (lbt rfl) ?_;simp only [BZ,seval];refine step_ret (AI S.ok d e i) ?_;rintro r h ⟨f,q⟩;simp only [BZ,ab,seval];exact⟨f,q⟩
theorem sback_ok(c:OZ h0):Ret zM 201 [ptrTo br,.int .i64 v] h0 fun r h'=>Gr h0 h'/\ ∃b1 b2,r=.func (.func 252) #[] #[ptrTo b1,ptrTo b2]/\h0.n<=b1/\h0.n<=b2/\b1≠b2/\h'.load b1 0 1=some [ptrTo br]/\Row h' b2 [.int .i64 v] 1:=by have S:=Si c;refine aa (n:=6) (rs:=[.tmp 4]) rfl Tryz.e201 rfl rfl rfl (lbt rfl) ?_;simp only [BZ,seval];refine ac (bJ (by exact bD)) S ?_;clear S;intro h b1 S a;simp only [BZ,if_false,seval];refine ac (bJ (by exact aZ)) S ?_;clear S;intro h b2 S b;simp only [BZ,ab,seval];have d:=S.apart;exact⟨S.gr,b1,b2,rfl,a,b,fun e=>(by subst e;simp [keys]at d),S.ld m1 rfl,S.row m0⟩
theorem back_it(U:OZ hq)(V:Gr hq h0){g:Gra}(ay:Good g){nb y:Nat}(hn:aS hq nb (ptrTo y) g){m:Value}{al:Nat->Bool}(R:iF h0 B br (ptrTo y) m p g.nodes σ)(sv:Sv g.arcs g.nodes s al pi σ)(hu:k∈σ.O)
 (e1:h0.load b1 0 1=some [ptrTo br]) (e2:Row h0 b2 [.int .i64 k] 1) (d1:b2∉B) (d2:b1≠b2) (d3:hq.n<=b2):
 vb zM 252 [ptrTo b1,ptrTo b2] h0 (fun c=>c=b1\/c∈B\/c<hq.n) (· =b2) ((σ.P k).map fun(a:Nat)=>[.int .i64 a]):=by
 intro lb J Z hz Y hW h F r t A C;have f:=V.ok;obtain⟨W,D,X,ph,F',z,rfl,hL,_⟩:=R;have rr:Row h0 br _ 1:=hL _ m0;have rb:Row h0 D (byC g.nodes σ.P) 1:=hL _ m2;have E:br∈keys (srL br W D X g.nodes (ptrTo y) (ptrTo ph) m p z σ) (srG z σ)++F':=Xe _ (by simp [srL,keys]);have N:D∈keys (srL br W D X g.nodes (ptrTo y) (ptrTo ph) m p z σ) (srG z σ)++F':=Xe _ (by simp [srL,keys]);generalize keys (srL br W D X g.nodes (ptrTo y) (ptrTo ph) m p z σ) (srG z σ)++F'=B at d1 E N r;have l0:=rr.load1 (o:=0) rfl;have l3:=rr.load1 (o:=3) rfl;have d:Row h b2 [.int .i64 k] 1:=Row.of_get (t b2 rfl) e2;have q2:=d.load1 (o:=0) rfl;have O:=sv.lt k hu;have G:=r.load f e1 (.inl rfl);have Q:=r.load f l3 (.inr (.inl E));have T:=r.load f (rb.load1 (byC_at (P:=σ.P) O)) (.inr (.inl N));refine enter (n:=39) (rs:=[]) rfl Tryz.e252 rfl rfl rfl (lbt rfl) ?_;simp only [BZ];refine ao (av rfl) (q:=0) (ps:=[]) (by kernel_rfl) ?_;simp only [BZ,cls,G,q2,Q,T,O,seval];refine aW (fun(j:Nat) H h=>j<=(σ.P k).length/\ ∃u F,u∈σ.O/\σ.P u=(σ.P k).drop j/\ItS h0 (fun c=>c=b1\/c∈B\/c<hq.n) h F/\b2∉F/\J j h F/\Row h b2 [.int .i64 (u:Nat)] 1/\H 0=.func (.yield lb) #[] #[]/\H 1=ptrTo b1/\H 2=ptrTo b2/\H 4=.int .i64 (byI (σ.P u))) (fun j=>(σ.P k).length-j) ?_ 0 _ _ ?_
 . clear G q2 Q T O d C A t r F h;intro j ih H hS ⟨hj',u,F,hu',hP,r,A,C,d,r0,r1,r2,r4⟩;have O:=sv.lt u hu';rcases sv.path u (.inl hu')with⟨_,e,_⟩|⟨a,ha,aL,ht,hs,e,_⟩
   . have ej:j=(σ.P k).length:=(by rw [e]at hP;have:=congrArg List.length hP;rw [List.length_drop]at this;simp at this;omega);rw [e]at r4;simp only [byI]at r4;simp only [BZ,r4,seval];exact cy (cd ⟨rfl,_,rfl,rfl,.inl ⟨_,F,rfl,by rw [X6,<-ej];exact C⟩⟩)
   . have hlt:j<(σ.P k).length:=(by rw [e]at hP;have:=congrArg List.length hP;rw [List.length_drop]at this;simp at this;omega);have I:(σ.P k)[j]=a/\(σ.P k).drop (j+1)=σ.P (g.arcs.getD a default).s:=(by rw [e,XY hlt]at hP;injection hP with h1 h2;exact⟨h1.symm,h2.symm⟩);have hx:((σ.P k).map fun(a:Nat)=>[Value.int .i64 a])[j]? =some [.int .i64 (a:Nat)]:=(by rw [Xp,Xb hlt,I.1];rfl);rw [e]at r4;simp only [byI]at r4;have c0:(0:Int)<=(a:Int):=(by omega);have ak:=d.lt r.ok;simp only [BZ,r0,r4,c0,seval];refine dg Y r C (i:=j) hx ?_ ?_ ?_
     . intro K F2 ad l f2 af;have w:Row K b2 [.int .i64 (u:Nat)] 1:=f2.has (o:=.row _ 1) d A;have ai:b2∉F2:=fun hm=>(af b2 hm).elim A (fun h=>by omega);have S:=St.init1 l.ok (o:=.row _ 1) w;have G:=l.load f e1 (.inl rfl);have q0:=l.load f l0 (.inr (.inl E));have Q:=l.load f l3 (.inr (.inl E));have sN:=sv.lt _ hs;have T:=l.load f (rb.load1 (byC_at (P:=σ.P) sN)) (.inr (.inl N));have nt:aS K nb (ptrTo y) g:=hn.keep U (l.keep (Gr.keep V) V.n (fun c hc=>.inr (.inr hc)));simp only [BZ,r1,r4,G,q0,seval];refine step_ret (ku S.ok nt ha) ?_;rintro rv h4 ⟨g4,rfl⟩;replace S:=S.call g4;clear g4;have ga:g.arcs[a]=g.arcs.getD a default:=(by simp [Xa,ha]);rw [ga];have L: ∀{c},c=b1\/c∈B-> ¬c=b2:=fun hc e=>(by subst e;exact hc.elim (fun h=>d2 h.symm) d1);simp only [BZ,c7,seval];refine ac aA S ?_;clear S;intro h b5 S ax;simp only [BZ,seval];refine aC (S.store (i:=0) rfl ?_ ?_ rfl rfl ?_ ono) ?_
       . exact(by exact Tryz.t135.2.1)
       . exact(by intro x e;cases e)
       . exact lbt rfl
       clear S;rintro h ⟨S,mo⟩;clear mo;simp only [LC,ae,lay,Xq,Xr,seval]at S;simp only [BZ,r2,S.ld (b:=b5) (o:=0) m0 rfl,seval];refine aC (aE S (i:=1) rfl ?_ ?_ ?_ ono) ?_
       . exact(by simp only [FA0])
       . exact(by exact aZ)
       . exact Xg (lbt rfl)
       clear S;rintro h ⟨S,mo⟩;clear mo;simp only [LC,ae,lay,Xq,Xr,seval]at S;have k1:=S.old G (L (.inl rfl));have k3:=S.old Q (L (.inr E));have k4:=S.old T (L (.inr N));simp only [BZ];refine ao (av rfl) (q:=0) (ps:=[]) (by kernel_rfl) ?_;simp only [BZ,cls,r1,r2,k1,k3,k4,sN,S.ld (b:=b2) (o:=0) m1 rfl,seval];have M:=S.fr;refine ih (j+1) _ _ (by omega) ⟨by omega,(g.arcs.getD a default).s,F2,hs,I.2.symm,?_,ai,hW _ _ _ _ ad M,S.row (by simp),by simp [aB,r0,r1,ah,r2]⟩;exact⟨M.ok,Xk l.n M.n,fun b t I=>(M.get b (XI t l.n) (by rcases I with h|h|h;exact L (.inl h);exact L (.inr h);exact fun e=>by omega)).trans (l.data b t I),l.apart,fun b t=>XI (l.lt b t) M.n⟩
     . intro K a' _;simp only [BZ,seval];exact cy (cd ⟨rfl,_,rfl,rfl,.inr (.inl ⟨_,rfl,a'⟩)⟩)
     . intro v K a';exact absurd a' (hz v K)
 . exact⟨XM _,k,F,hu,by rw [XU],r,fun hm=>A b2 hm rfl,C,d,by simp [aB,dh,ah]⟩
def rvC(n k:Nat)(f:Nat->Value):List Value:=(XJ n).map fun p=>if p<k\/n<=p+k then f (n-1-p)else f p
theorem pd{f:Nat->Value}:(rvC n k f).length=n:=by simp [rvC]
theorem sS{f:Nat->Value}(h:i<n):(rvC n k f)[i]? =some (if i<k\/n<=i+k then f (n-1-i)else f i):=lE (F:=fun p=>if p<k\/n<=p+k then f (n-1-p)else f p) h
theorem rvC_step{f:Nat->Value}(h:2*k+1<n):((rvC n k f).set k (f (n-1-k))).set (n-1-k) (f k)=rvC n (k+1) f:=by
 refine Xw fun i=>?_;rw [List.getElem?_set,List.getElem?_set,Xh,pd];by_cases a:i<n
 . rw [sS a,sS a];by_cases b:n-1-k=i
   . subst b;rw [if_pos rfl,if_pos a,if_pos (.inr (by omega)),show n-1-(n-1-k)=k by omega]
   . rw [if_neg b];by_cases d:k=i
     . subst d;rw [if_pos rfl,if_pos a,if_pos (.inl (by omega))]
     . rw [if_neg d];congr 1;by_cases c:i<k\/n<=i+k
       . rw [if_pos c,if_pos (by omega)]
       . rw [if_neg c,if_neg (by omega)]
 . rw [if_neg (by omega),if_neg (by omega)];rw [Xm (by rw [pd];omega),Xm (by rw [pd];omega)]
theorem rvC_zero:xs.flatMap bK=rvC xs.length 0 fun p=>.int .i64 (xs.getD p 0:Nat):=by
 have e:xs.flatMap bK=xs.map fun(x:Nat)=>Value.int .i64 x:=by rw [Xf,XE,Xf];rfl
 rw [e];refine Xw fun i=>?_;by_cases a:i<xs.length
 . rw [sS a,if_neg (by omega)];simp [a]
 . rw [Xm (by simpa using a),Xm (by rw [pd];omega)]
theorem rvC_done(h:xs.length<=2*k+1)(d:2*k<=xs.length):rvC xs.length k (fun p=>.int .i64 (xs.getD p 0:Nat))=xs.reverse.flatMap bK:=by
 have e:xs.reverse.flatMap bK=xs.reverse.map fun(x:Nat)=>Value.int .i64 x:=by rw [Xf,XE,Xf];rfl
 rw [e];refine Xw fun i=>?_;by_cases b:i<xs.length
 . rw [sS b,Xp,List.getElem?_reverse b];have a:xs.length-1-i<xs.length:=(by omega);rw [Xb a];have g: ∀{j:Nat} (a:j<xs.length),xs.getD j 0=xs[j]:=fun a=>(by simp [Xa,a]);by_cases c:i<k\/xs.length<=i+k
   . rw [if_pos c,g a];rfl
   . rw [if_neg c];have:i=xs.length-1-i:=(by omega);rw [g b];simp only [XB];congr 3;simp only [<-this]
 . rw [Xm (by rw [pd];omega),Xm (by simpa using b)]
theorem wP(u:OZ h0){v:Value}(y:ia h0 (v,1,xs.flatMap bK))(L:xs.length<1000000):
 Ret zM 137 [v] h0 fun _ h'=>Mo (aq v) h0 h'/\ia h' (v,1,xs.reverse.flatMap bK):=by
 rcases y with⟨g,j⟩|⟨b,n,g,j,t⟩
 . simp only []at g j;subst g;have:xs=[]:=by
    cases xs with
    |nil=>rfl|cons a l=>simp [bK]at j
   subst this;have S:=Si u;refine aa (n:=28) (rs:=[]) rfl Tryz.e137 rfl rfl rfl (lbt rfl) ?_;simp only [BZ,Xc,seval];rw [cD];have z:an .i64 (-1)= -1:=rfl;have A: ¬((0:Int)< -1):=(by omega);simp only [BZ,z,A,seval];exact⟨S.gr.fr,.inl ⟨rfl,rfl⟩⟩
 . simp only []at g j t;subst g;have B:n=xs.length:=(by rw [nu]at j;omega);subst B;rw [rvC_zero]at t;have S:=St.init1 u (o:=.row _ 1) t;have C:an .i64 ((xs.length:Int)-1)=(xs.length:Int)-1:=(by rw [wrap64]<;>omega);refine aa (n:=28) (rs:=[]) rfl Tryz.e137 rfl rfl rfl (lbt rfl) ?_;simp only [BZ,C,seval];refine aW (fun(k:Nat) r h=>2*k<=xs.length/\St (· =b) h0 h [(b,.row (rvC xs.length k fun p=>.int .i64 (xs.getD p 0:Nat)) 1)] []/\r 0=.slice (some ⟨b,0,some 1⟩) xs.length xs.length/\r 2=.int .i64 (k:Nat)/\r 3=.int .i64 ((xs.length:Int)-1-k)) (fun k=>xs.length-k) ?_ 0 _ _ ?_
   . clear S;intro k D r M ⟨hk,S,r0,r2,r3⟩;by_cases hlt:2*k+1<xs.length
     . have s:(k:Int)<(xs.length:Int)-1-k:=(by omega);have e:k<xs.length:=(by omega);have d:xs.length-1-k<xs.length:=(by omega);have E:(xs.length:Int)-1-k=((xs.length-1-k:Nat):Int):=(by omega);have F:an .i64 ((k:Int)+1)=((k+1:Nat):Int):=(by rw [wrap64]<;>omega);have G:an .i64 (((xs.length-1-k:Nat):Int)-1)=(xs.length:Int)-1-(k+1:Nat):=(by rw [wrap64]<;>omega);have w:=(S.row (b:=b) m0).load1 (sS e);have x:=(S.row (b:=b) m0).load1 (sS d);rw [if_neg (by omega)]at w x;rw [E]at r3 s;simp only [BZ,r2,r3,s,seval];refine ao (av rfl) (q:=0) (ps:=[]) (by kernel_rfl) ?_;simp only [BZ,cls,r0,r2,r3,e,d,w,x,seval];refine cM (aE S (i:=0) rfl Tryz.t3.2.2.1 aZ (by rw [pd];exact e) ono) ?_;clear S;rintro N ⟨S,H⟩;simp only [LC]at S;simp only [BZ,cls,d,seval];refine cM (aE S (i:=0) rfl Tryz.t3.2.2.1 aZ (by rw [Xh,pd];exact d) ono) ?_;clear S;rintro O ⟨S,I⟩;simp only [LC]at S;have J:=rvC_step (f:=fun p=>.int .i64 (xs.getD p 0:Nat)) hlt;rw [J]at S;simp only [BZ,r2,r3,F,G,seval];exact D (k+1) _ _ (by omega) ⟨by omega,S,by simp [aB,r0]⟩
     . have s: ¬(k:Int)<(xs.length:Int)-1-k:=(by omega);simp only [BZ,r2,r3,s,seval];have m:=S.row m0;rw [rvC_done (by omega) hk]at m;exact⟨S.fr.mono (fun c K=>Eq.symm K),.inr ⟨b,xs.length,rfl,by show xs.length*1=(xs.reverse.flatMap bK).length;rw [nu,List.length_reverse];omega,m⟩⟩
   . exact⟨by omega,S,by simp [aB,cG]⟩
def gK(l:List Nat):List Value:=l.map fun(x:Nat)=>.int .i64 x
theorem u9(l:List Nat):l.flatMap bK=gK l:=by unfold gK;rw [Xf,XE,Xf];rfl
theorem pG(l:List Nat):(gK l).length=l.length:=by simp [gK]
theorem natM_at{l:List Nat}(h:i<l.length):(gK l)[i]? =some (.int .i64 (l.getD i 0:Nat)):=by unfold gK;rw [Xp,Xb h];simp [Xa,h]
theorem BD(l:List Nat)(i x:Nat):(gK l).set i (.int .i64 (x:Nat))=gK (l.set i x):=by unfold gK;rw [Ym]
def swJ(l:List Nat)(j:Nat):List Nat:=(l.set j (l.getD (j-1) 0)).set (j-1) (l.getD j 0)
def bub(key:Nat->Int):Nat->List Nat->List Nat
 |0,l=>l|j+1,l=>if key (l.getD j 0)<key (l.getD (j+1) 0)then bub key j (swJ l (j+1))else l
def j8(key:Nat->Int)(k:Nat)(l:List Nat):List Nat:=(XJ k).foldl (fun l i=>bub key (i+1) l) l
theorem sf(key:Nat->Int)(k:Nat)(l:List Nat):j8 key (k+1) l=bub key (k+1) (j8 key k l):=by unfold j8;rw [List.range_succ,List.foldl_append];rfl
theorem swJ_len(l:List Nat)(j:Nat):(swJ l j).length=l.length:=by simp [swJ]
theorem Cp{l:List Nat}(h:j<l.length):(swJ l j).Perm l:=by have:((l.set j l[j-1]).set (j-1) l[j]).Perm l:=List.set_set_perm h (by omega);unfold swJ;rwa [show l.getD (j-1) 0=l[j-1] by simp [Xa,show j-1<l.length by omega],show l.getD j 0=l[j] by simp [Xa,h]]
theorem AY{key:Nat->Int}: ∀(j:Nat) {l:List Nat},j<l.length->(bub key j l).Perm l
 |0,l,_=>.refl _| j+1,l,h=>by
   unfold bub
   split
   . exact(AY j (by rw [swJ_len];omega)).trans (Cp h)
   . exact .refl _
theorem sq{key:Nat->Int}{l:List Nat}: ∀(k:Nat),k<l.length\/k=0->(j8 key k l).Perm l
 |0,_=>.refl _| k+1,h=>by have a:=sq (key:=key) (l:=l) k (by omega);rw [sf];exact(AY (k+1) (by rw [a.length_eq];omega)).trans a
theorem Bm{b:Int}:nw a b<0↔a<b:=by
 unfold nw
 split
 . omega
 . split<;>omega
def CmpF(E:Env)(hq:Hp)(g:FuncId)(post:List Value)(N:Nat)(key:Nat->Int):Prop:= ∀h,Gr hq h-> ∀i j,i<N->j<N->aO E g ([.int .i64 (i:Nat),.int .i64 (j:Nat)]++post) h (.int .i64 (nw (key j) (key i)))
theorem EF  (z:Gr hq h0)    {post:Array Value}  (p:Row h0 b (gK xs) 1) (Q:hq.n<=b) (R:xs.length<=20) (A: ∀x∈xs,x<N) (F:CmpF zM hq g post.toList N key):
 Ret zM 269 [.slice (some ⟨b,0,some 1⟩) xs.length xs.length,.int .i64 0,.int .i64 (xs.length:Nat),.func (.func g) #[] post] h0 fun _ h'=>Mo (· =b) h0 h'/\Row h' b (gK (j8 key (xs.length-1) xs)) 1:=by
 have G:=z.ok;have S:=St.init1 G (o:=.row _ 1) p;have T:an .i64 (0+1)=((0+1:Nat):Int):=rfl;refine aa (n:=53) (rs:=[]) rfl Tryz.e269 rfl rfl rfl (lbt rfl) ?_;simp only [BZ,seval];refine aW (fun(i:Nat) a h=>i<=xs.length-1/\St (· =b) h0 h [(b,.row (gK (j8 key i xs)) 1)] []/\a 0=.slice (some ⟨b,0,some 1⟩) xs.length xs.length/\a 1=.int .i64 0/\a 2=.int .i64 (xs.length:Nat)/\a 3=.func (.func g) #[] post/\a 8=.int .i64 ((i+1:Nat):Int)) (fun i=>xs.length-i) ?_ 0 _ _ ?_
 . clear S;intro i B a h ⟨hi,S,r0,r1,r2,r3,r8⟩;by_cases hlt:i+1<xs.length
   . simp only [BZ,r2,r8,aF,hlt,seval];have r:=sq (key:=key) (l:=xs) i (.inl (by omega));refine aW (fun(j:Nat) a h=>j<=i+1/\ ∃l,l.Perm xs/\bub key j l=bub key (i+1) (j8 key i xs)/\St (· =b) h0 h [(b,.row (gK l) 1)] []/\a 0=.slice (some ⟨b,0,some 1⟩) xs.length xs.length/\a 1=.int .i64 0/\a 2=.int .i64 (xs.length:Nat)/\a 3=.func (.func g) #[] post/\a 8=.int .i64 ((i+1:Nat):Int)/\a 9=.int .i64 (j:Nat)) (fun j=>j) ?_ (i+1) _ _ ?_
     . clear S r0 r1 r2 r3 r8;intro j s a h ⟨hj,l,pm,hbub,S,r0,r1,r2,r3,r8,r9⟩;have U:=pm.length_eq;have C:an .i64 (((i+1:Nat):Int)+1)=((i+1+1:Nat):Int):=(by rw [wrap64]<;>omega);by_cases H:0<j
       . obtain⟨k,rfl⟩: ∃k,j=k+1:=⟨j-1,by omega⟩;have D:(0:Int)<((k+1:Nat):Int):=(by omega);have t:an .i64 (((k+1:Nat):Int)-1)=(k:Int):=(by rw [wrap64]<;>omega);have E:k+1<xs.length:=(by omega);have u:k<xs.length:=(by omega);have d:=(S.row (b:=b) m0).load1 (natM_at (i:=k+1) (by omega));have f:=(S.row (b:=b) m0).load1 (natM_at (i:=k) (by omega));have I:l.getD (k+1) 0<N:=(by refine A _ (pm.mem_iff.1 ?_);rw [Xa,Xb (by omega)];exact XA _);have J:l.getD k 0<N:=(by refine A _ (pm.mem_iff.1 ?_);rw [Xa,Xb (by omega)];exact XA _);simp only [BZ];refine ao (av rfl) (q:=0) (ps:=[]) (by kernel_rfl) ?_;simp only [BZ,cls,r0,r1,r3,r9,D,t,E,u,d,f,seval];refine bz (F _ (((z.fr (M:=NoM)).trans S.fr (fun c e=>.inr (by omega))).gr) _ _ I J) ?_;intro h v;replace S:=S.call v;by_cases m:key (l.getD k 0)<key (l.getD (k+1) 0)
         . have w:nw (key (l.getD k 0)) (key (l.getD (k+1) 0))<0:=Bm.2 m;replace d:=v.load d;replace f:=v.load f;simp only [BZ,cls,w,seval];refine ao (av rfl) (q:=0) (ps:=[]) (by kernel_rfl) ?_;simp only [BZ,cls,r0,r9,t,E,u,d,f,seval];refine cM (aE S (i:=0) rfl Tryz.t3.2.2.1 aZ (by rw [pG];omega) ono) ?_;clear S;rintro V ⟨S,K⟩;simp only [LC]at S;simp only [BZ,cls,u,seval];refine cM (aE S (i:=0) rfl Tryz.t3.2.2.1 aZ (by rw [Xh,pG];omega) ono) ?_;clear S;rintro W ⟨S,L⟩;simp only [LC]at S;rw [BD,BD]at S;simp only [BZ,r9,t,seval];have e:bub key (k+1) l=bub key k (swJ l (k+1)):=(by show(if _ then _ else _)=_;rw [if_pos m]);exact s k _ _ (by omega) ⟨by omega,swJ l (k+1),(Cp (by omega)).trans pm,by rw [<-e];exact hbub,S,by simp [aB,r0,r1,r2,r3,r8]⟩
         . have w: ¬nw (key (l.getD k 0)) (key (l.getD (k+1) 0))<0:=fun h=>m (Bm.1 h);have e:bub key (k+1) l=l:=(by show(if _ then _ else _)=_;rw [if_neg m]);rw [e]at hbub;simp only [BZ,cls,r8,w,C,seval];exact B (i+1) _ _ (by omega) ⟨by omega,by rw [sf,<-hbub];exact S,by simp [aB,r0,r1,r2,r3]⟩
       . have O:j=0:=(by omega);subst O;have y:l=bub key (i+1) (j8 key i xs):=hbub;have D: ¬(0:Int)<((0:Nat):Int):=(by omega);simp only [BZ];refine ao (av rfl) (q:=0) (ps:=[]) (by kernel_rfl) ?_;simp only [BZ,cls,Xc,r1,r8,r9,C,seval];exact B (i+1) _ _ (by omega) ⟨by omega,by rw [sf,<-y];exact S,by simp [aB,r0,r1,r2,r3]⟩
     . exact⟨XD _,_,r,rfl,S,by simp [aB,r0,r1,r2,r3,r8]⟩
   . simp only [BZ,r2,r8,aF,hlt,seval];have P:i=xs.length-1:=(by omega);subst P;exact⟨S.fr,S.row m0⟩
 . exact⟨XM _,S,by simp [aB,dh],by simp [aB,dh],by simp [aB,dh],by simp [aB,dh],by simp [aB];rfl⟩
theorem stable_ok(c:Gr hq h0){post:Array Value}(a:Row h0 b (gK xs) 1)(d:hq.n<=b)(m:xs.length<20)(e: ∀x∈xs,x<N)(i:CmpF zM hq g post.toList N key):
 Ret zM 243 [.slice (some ⟨b,0,some 1⟩) xs.length xs.length,.int .i64 (xs.length:Nat),.func (.func g) #[] post] h0 fun _ h'=>Mo (· =b) h0 h'/\Row h' b (gK (j8 key (xs.length-1) xs)) 1:=by
 have j:=c.ok;have k: ¬(20:Int)<=(xs.length:Int):=by omega
 have l: ¬(20:Int)<(xs.length:Int):=by omega
 have S:=Si j;refine aa (n:=63) (rs:=[]) rfl Tryz.e243 rfl rfl rfl (lbt rfl) ?_;simp only [BZ,seval];rw [cD];simp only [BZ,k,seval];refine step_ret (EF c a d (by omega) e i) ?_;rintro r h ⟨f,R⟩;simp only [BZ];rw [cD];simp only [BZ,l,seval];exact⟨f,R⟩
theorem AC(c:Gr hq h0){post:Array Value}(a:Row h0 b (gK xs) 1)(d:hq.n<=b)(e:xs.length<20)(f: ∀x∈xs,x<N)(i:CmpF zM hq g post.toList N key):
 Ret zM 188 [.slice (some ⟨b,0,some 1⟩) xs.length xs.length,.func (.func g) #[] post] h0 fun _ h'=>Mo (· =b) h0 h'/\Row h' b (gK (j8 key (xs.length-1) xs)) 1:=by
 refine aa (n:=9) (rs:=[]) rfl Tryz.e188 rfl rfl rfl (lbt rfl) ?_;simp only [BZ,seval];refine step_ret (stable_ok c a d e f i) ?_;rintro r h q;simp only [BZ];exact q
theorem B2(j:OZ h0){v:Value}(k:az h0 1 bK v xs)(u:xs.length<1000000)(d:xs≠ []):Ret zM 81 [v] h0 fun r h'=>Gr h0 h'/\ ∃b,r=.slice (some ⟨b,0,some 1⟩) xs.length xs.length/\Row h' b (gK xs) 1/\h0.n<=b:=by
 have S:=Si j;rcases k with⟨_,rfl⟩|⟨b,o,s,c,rfl,l,m⟩
 . exact absurd rfl d
 . refine aa (n:=8) (rs:=[.tmp 2]) rfl Tryz.e81 rfl rfl rfl (lbt rfl) ?_;simp only [BZ,seval];refine ac (ce (by exact Tryz.t41.1) (by exact XO) (by decide) (by rfl)) S ?_;clear S;intro h x S f;simp only [LC,bH,cg,ae,Xx,Xo,Xn,XC,seval]at S;simp only [BZ,seval];have p:=S.fr.n;refine dE (S.cloneW (enc:=bK) (ys:=xs) Tryz.t41.1 XO (by decide) Tryz.t41.2.2.2.2.2 (.inr ⟨b,o,s,c,rfl,l,S.old m (fun h=>h)⟩) dC (by decide) (by omega) (S.row m0)) ?_;rintro h' v ⟨q,g,y,t,w⟩;obtain⟨i,rfl,a⟩:=w d;simp only [BZ,ab,seval];rw [u9]at a;exact⟨q.gr,i,rfl,a,(t i rfl).elim (fun e=>by omega) (fun e=>Xk p e)⟩
theorem first_ok(j:Gr hq h0){v:Value}{post:Array Value}(t:az h0 1 bK v xs)(d:xs≠ [])(u:xs.length<20)(w: ∀x∈xs,x<N)(i:CmpF zM hq g post.toList N key)(C:1<=m):
 Ret zM 109 [v,.int .i64 (m:Nat),.func (.func g) #[] post] h0 fun r h'=>Gr h0 h'/\az h' 1 bK r ((j8 key (xs.length-1) xs).take (min m xs.length))/\ ∀c,aq r c->h0.n<=c:=by
 have y:=j.ok;have z:min (m:Int) (xs.length:Int)=((min m xs.length:Nat):Int):=by omega
 have q:=sq (key:=key) (l:=xs) (xs.length-1) (by cases xs with|nil=>exact absurd rfl d|cons a l=>simp);have S:=Si y;refine aa (n:=18) (rs:=[.tmp 6]) rfl Tryz.e109 rfl rfl rfl (lbt rfl) ?_;simp only [BZ,seval];refine step_ret (B2 S.ok t (by omega) d) ?_;rintro r h ⟨s,b,rfl,k,A⟩;have o:hq.n<=b:=Xk j.n A;simp only [BZ,seval];refine step_ret (AC (j.trans s) k o u w i) ?_;rintro r D ⟨f,R⟩;have B:=Bk (kd:=.i64) (b:=b) (len:=xs.length) (n:=min m xs.length) Tryz.t41.1 Tryz.t3.2.2.1 (cap:=xs.length) (Nat.min_le_right _ _);simp only [BZ,ab,XB,XQ,z,B,seval];refine⟨((s.fr (M:=NoM)).trans f (fun c e=>.inr (by omega))).gr,?_,fun c i=>by have i:b=c:=i;omega⟩;have p:((j8 key (xs.length-1) xs).take (min m xs.length)).length=min m xs.length:=by rw [Xy,q.length_eq];omega
 refine .inr ⟨b,0,some 1,xs.length,by rw [p],by rw [p];exact Nat.min_le_right _ _,?_⟩;rw [p,R.load (by rw [pG,q.length_eq];omega),u9,XU,Xn];unfold gK;rw [List.map_take]
theorem rep64_ok(t:OZ h0){v:Value}(u:az h0 1 (encI .i64) v [x])(a:1<=N)(y:N<1000):Ret zM 235 [v,.int .i64 N] h0 fun r h'=>Gr h0 h'/\ ∃b,r=.slice (some ⟨b,0,none⟩) N N/\h0.n<=b/\Row h' b (zO N (.int .i64 x)) 1:=by
 have S:=Si t;have z: ¬((N:Int)<0):=by omega
 have A: ¬((9223372036854775807:Int)<(N:Int)):=by omega
 have B:an .u64 (N:Int)=(N:Int):=xX (by omega) (by omega);have C:an .u64 1=1:=rfl;have D:an .i64 (N:Int)=(N:Int):=by rw [wrap64]<;>omega
 obtain⟨J,K,L,M,rfl,E,F⟩: ∃b o s c,v=.slice (some ⟨b,o,s⟩) 1 c/\1<=c/\h0.load b o 1=some [.int .i64 x]:=by
  rcases u with⟨_,h⟩|⟨b,o,s,c,rfl,G,H⟩
  . cases h
  . exact⟨b,o,s,c,rfl,G,H⟩
 refine aa (n:=48) (rs:=[.tmp 4]) rfl Tryz.e235 rfl rfl rfl (lbt rfl) ?_;simp only [BZ,jz,cP,ju,Xc,z,B,C,seval];refine ag (mul_ok S.ok y) ?_;intro h g;replace S:=S.call g;clear g;simp only [BZ,jz,cP,ju,A,D,seval];refine ac (lZ (by exact Tryz.t23.1) (by exact Tryz.e2E) (by omega) (by omega)) S ?_;clear S;intro h j S d;rw [XL,px]at S;simp only [BZ,XL,seval];refine dE (S.copyO (i:=0) (l:=zO 1 (.int .i64 x)) rfl Tryz.t23.1 Tryz.t2.2.2.1 (by rw [lh a];decide) (by rw [lh a];exact S.old F (fun h=>h)) (by simp;omega) rfl) ?_;clear S;rintro h w ⟨rfl,S⟩;simp only [LC]at S;rw [show zO N (Value.int .i64 0)=zO 0 (.int .i64 x)++zO N (.int .i64 0) by simp,wg a]at S;rw [lh a];simp only [BZ,Xc,seval];refine aW (fun(n:Nat) m h=>1<=n/\n<=N/\St NoM h0 h [(j,.row (zO n (.int .i64 x)++zO (N-n) (.int .i64 0)) 1)] []/\m 7=.slice (some ⟨j,0,none⟩) N N/\m 8=.int .i64 n) (fun n=>N-n) ?_ 1 _ _ ?_
 . clear S;intro n I m h ⟨hn1,hn,S,r7,r8⟩;by_cases hlt:n<N
   . simp only [BZ,r7,r8,aF,hlt,seval];refine ao (av rfl) (q:=0) (ps:=[]) (by kernel_rfl) ?_;simp only [BZ,cls,XB,XQ,r7,r8,AT Tryz.t23.1 Tryz.t2.2.2.1 hlt,zT Tryz.t23.1 Tryz.t2.2.2.1 (Yl hlt),seval];have p:0<dR n (N-n):=by
      rcases XZ n (N-n)with h|h
      . rw [lh h];omega
      . rw [vh h];omega
     have f:dR n (N-n)<=N-n/\dR n (N-n)<=n:=by
      rcases XZ n (N-n)with h|h
      . rw [lh h];omega
      . rw [vh h];omega
     refine mj (S.copyO (i:=0) (l:=zO (dR n (N-n)) (.int .i64 x)) rfl Tryz.t23.1 Tryz.t2.2.2.1 p ?_ (by simp;omega) (by simp;right;rfl)) ?_
     . rw [(S.row m0).load (by simp;omega),Xn,XU];congr 1;rw [XR (by simp;omega),Yf];congr 1;omega
     clear S;rintro h w ⟨rfl,S⟩;simp only [LC]at S;rw [wg f.1]at S;generalize dR n (N-n)=k at S p f;have w:an .i64 ((n:Int)+(k:Int))=((n+k:Nat):Int):=(by rw [wrap64]<;>omega);simp only [BZ,cls,w,seval];exact I (n+k) _ _ (by omega) ⟨by omega,by omega,by rw [show N-(n+k)=N-n-k by omega];exact S,by simp [aB,r7]⟩
   . simp only [BZ,ab,r7,r8,aF,hlt,seval];have e:n=N:=(by omega);subst e;have R:=S.row (b:=j) m0;rw [Yj,Yg,XG]at R;exact⟨S.gr,j,rfl,d,R⟩
 . exact⟨XD _,a,by simpa using S,by simp [aB]⟩
theorem repI_ok(t:OZ h0){v:Value}(u:az h0 1 (encI .i64) v [x])(a:1<=N)(y:N<1000):Ret zM 196 [v,.int .i64 N] h0 fun r h'=>Gr h0 h'/\ ∃b,r=.slice (some ⟨b,0,none⟩) N N/\h0.n<=b/\Row h' b (zO N (.int .i64 x)) 1:=by
 have S:=Si t;have z: ¬((N:Int)<0):=by omega
 have A: ¬((9223372036854775807:Int)<(N:Int)):=by omega
 have B:an .u64 (N:Int)=(N:Int):=xX (by omega) (by omega);have C:an .u64 1=1:=rfl;have D:an .i64 (N:Int)=(N:Int):=by rw [wrap64]<;>omega
 obtain⟨J,K,L,M,rfl,E,F⟩: ∃b o s c,v=.slice (some ⟨b,o,s⟩) 1 c/\1<=c/\h0.load b o 1=some [.int .i64 x]:=by
  rcases u with⟨_,h⟩|⟨b,o,s,c,rfl,G,H⟩
  . cases h
  . exact⟨b,o,s,c,rfl,G,H⟩
 refine aa (n:=48) (rs:=[.tmp 4]) rfl Tryz.e196 rfl rfl rfl (lbt rfl) ?_;simp only [BZ,jz,cP,ju,Xc,z,B,C,seval];refine ag (mul_ok S.ok y) ?_;intro h g;replace S:=S.call g;clear g;simp only [BZ,jz,cP,ju,A,D,seval];refine ac (lZ (by exact Tryz.t41.1) (by exact XO) (by omega) (by omega)) S ?_;clear S;intro h j S d;rw [XL,px]at S;simp only [BZ,XL,seval];refine dE (S.copyO (i:=0) (l:=zO 1 (.int .i64 x)) rfl Tryz.t41.1 Tryz.t3.2.2.1 (by rw [lh a];decide) (by rw [lh a];exact S.old F (fun h=>h)) (by simp;omega) rfl) ?_;clear S;rintro h w ⟨rfl,S⟩;simp only [LC]at S;rw [show zO N (Value.int .i64 0)=zO 0 (.int .i64 x)++zO N (.int .i64 0) by simp,wg a]at S;rw [lh a];simp only [BZ,Xc,seval];refine aW (fun(n:Nat) m h=>1<=n/\n<=N/\St NoM h0 h [(j,.row (zO n (.int .i64 x)++zO (N-n) (.int .i64 0)) 1)] []/\m 7=.slice (some ⟨j,0,none⟩) N N/\m 8=.int .i64 n) (fun n=>N-n) ?_ 1 _ _ ?_
 . clear S;intro n I m h ⟨hn1,hn,S,r7,r8⟩;by_cases hlt:n<N
   . simp only [BZ,r7,r8,aF,hlt,seval];refine ao (av rfl) (q:=0) (ps:=[]) (by kernel_rfl) ?_;simp only [BZ,cls,XB,XQ,r7,r8,AT Tryz.t41.1 Tryz.t3.2.2.1 hlt,zT Tryz.t41.1 Tryz.t3.2.2.1 (Yl hlt),seval];have p:0<dR n (N-n):=by
      rcases XZ n (N-n)with h|h
      . rw [lh h];omega
      . rw [vh h];omega
     have f:dR n (N-n)<=N-n/\dR n (N-n)<=n:=by
      rcases XZ n (N-n)with h|h
      . rw [lh h];omega
      . rw [vh h];omega
     refine mj (S.copyO (i:=0) (l:=zO (dR n (N-n)) (.int .i64 x)) rfl Tryz.t41.1 Tryz.t3.2.2.1 p ?_ (by simp;omega) (by simp;right;rfl)) ?_
     . rw [(S.row m0).load (by simp;omega),Xn,XU];congr 1;rw [XR (by simp;omega),Yf];congr 1;omega
     clear S;rintro h w ⟨rfl,S⟩;simp only [LC]at S;rw [wg f.1]at S;generalize dR n (N-n)=k at S p f;have w:an .i64 ((n:Int)+(k:Int))=((n+k:Nat):Int):=(by rw [wrap64]<;>omega);simp only [BZ,cls,w,seval];exact I (n+k) _ _ (by omega) ⟨by omega,by omega,by rw [show N-(n+k)=N-n-k by omega];exact S,by simp [aB,r7]⟩
   . simp only [BZ,ab,r7,r8,aF,hlt,seval];have e:n=N:=(by omega);subst e;have R:=S.row (b:=j) m0;rw [Yj,Yg,XG]at R;exact⟨S.gr,j,rfl,d,R⟩
 . exact⟨XD _,a,by simpa using S,by simp [aB]⟩
def qH(A:List Arc)(f:Arc->Nat)(a:List Nat):List (List Value):=a.map fun(id:Nat)=>[.int .i64 id,.agg ⟨c7 ⟨0,f (A.getD id default),(A.getD id default).w⟩⟩]
theorem arcs_ok'(f:OZ h0){d e:Value}(g:Fl p)(i:Fl d)(j:Fl e):Ret zM 236 [p,d,e] h0 fun v h'=>Gr h0 h'/\ ∃b1 b2 b3,v=.func (.func 263) #[] #[ptrTo b1,ptrTo b2,ptrTo b3]/\h0.n<=b1/\h0.n<=b2/\h0.n<=b3/\h'.load b1 0 1=some [d]/\h'.load b2 0 1=some [p]/\h'.load b3 0 1=some [e]:=by have S:=Si f;refine aa (n:=8) (rs:=[.tmp 6]) rfl Tryz.e236 rfl rfl rfl (lbt rfl) ?_;simp only [BZ,seval];refine ac (bJ (by assumption)) S ?_;clear S;intro h b2 S a;simp only [BZ,if_false,seval];refine ac (bJ (by assumption)) S ?_;clear S;intro h b1 S b;simp only [BZ,if_false,seval];refine ac (bJ (by assumption)) S ?_;clear S;intro h b3 S c;simp only [BZ,ab,seval];exact⟨S.gr,b1,b2,b3,rfl,b,a,c,S.ld m1 rfl,S.ld m2 rfl,S.ld m0 rfl⟩
theorem arcs_it(D:OZ hq)(l:OZ h0)(O:eZ hq h0)(P:hq.n<=h0.n){t:Value}{k:Gra}{H b3:Nat}(Q:aS hq H p k){d:List Nat}(I:az h0 1 bK t d)(u: ∀id∈d,id<k.arcs.length)(K:d.length<1000){f:Arc->Nat}(R:KeyF zM g f)
 (T:h0.load b1 0 1=some [t]) (U:h0.load b2 0 1=some [p]) (V:h0.load b3 0 1=some [.func (.func g) #[] #[]]):
 mJ zM 263 [] [ptrTo b1,ptrTo b2,ptrTo b3] h0 (fun c=>c=b1\/c=b2\/c=b3\/aq t c\/c<hq.n) (qH k.arcs f d):=by
 intro W J Z X Y h F s B;refine enter (n:=32) (rs:=[]) rfl Tryz.e263 rfl rfl rfl (lbt rfl) ?_;have L:=s.load l T (.inl rfl);simp only [BZ,L,I.lenq,seval];refine aW (fun(i:Nat) m h=>i<=d.length/\ ∃F,ItS h0 (fun c=>c=b1\/c=b2\/c=b3\/aq t c\/c<hq.n) h F/\J i h F/\m 0=.func (.yield W) #[] #[]/\m 1=ptrTo b1/\m 2=ptrTo b2/\m 3=ptrTo b3/\m 9=t/\m 10=.int .i64 d.length/\m 11=.int .i64 i) (fun i=>d.length-i) ?_ 0 _ _ ?_
 . clear L;intro i ih m h ⟨hi,F,s,B,r0,r1,r2,r3,r9,r10,r11⟩;by_cases hlt:i<d.length
   . obtain⟨c,o,y,E⟩:=(s.sl l I (fun b h=>.inr (.inr (.inr (.inl h))))).ix (kd:=.i64) dC hlt;have l2:=s.load l U (.inr (.inl rfl));have l3:=s.load l V (.inr (.inr (.inl rfl)));have z:=u _ (XA hlt);have nt:aS h H p k:=Q.keep D (s.keep O P (fun c hc=>.inr (.inr (.inr (.inr hc)))));have w:an .i64 ((i:Int)+1)=((i+1:Nat):Int):=(by rw [wrap64]<;>omega);have S:=Si s.ok;simp only [BZ,r2,r9,r10,r11,aF,hlt,y,E,bK,l2,seval];refine step_ret (ku S.ok nt z) ?_;rintro v h2 ⟨r,rfl⟩;replace S:=S.call r;clear r;simp only [BZ,seval];refine ac aA S ?_;clear S;intro h G S M;simp only [BZ,c7,seval];refine aC (S.store (i:=0) rfl ?_ ?_ rfl rfl ?_ ono) ?_
     . exact(by exact Tryz.t135.2.1)
     . exact(by intro x e;cases e)
     . exact lbt rfl
     clear S;rintro h ⟨S,mo⟩;clear mo;simp only [LC,ae,lay,Xq,Xr,seval]at S;simp only [BZ,seval];refine ao (av rfl) (q:=0) (ps:=[(4,6)]) (by kernel_rfl) ?_;simp only [BZ,cls,r0,r3,S.old l3 (fun h=>h),S.lds (b:=G) (o:=0) (n:=3) m0 (lbt rfl),seval];have A:=(S.row (b:=G) m0).lt S.ok;refine bz (R _ k.arcs[d[i]] S.ok) ?_;intro N r;have C:=am r A;replace S:=S.call r;clear r;simp only [BZ,cls,S.ld (b:=G) (o:=2) m0 rfl,seval];have gd:k.arcs.getD d[i] default=k.arcs[d[i]]:=(by simp [Xa,z]);have hx:(qH k.arcs f d)[i]? =some [.int .i64 (d[i]:Nat),.agg ⟨[.int .i64 0,.int .i64 (f k.arcs[d[i]]:Nat),.int .i64 (k.arcs[d[i]].w:Nat)]⟩]:=(by unfold qH;rw [Xp,Xb hlt];simp only [XB,gd];rfl);refine dn_yield X Y (s.gr S.gr) (Y.gr _ _ _ _ B S.gr) (j:=i) hx ?_ ?_
     . intro N F' a s' _ _;simp only [BZ,cls,r11,w,seval];refine⟨by simp only [aJ,aR,aH,aT,aI,ne_eq,not_false_eq_true,aY,bC,aQ,aN,bF,bW,aD,XW,r0,r1,r2,r3,ah,au C,ar C,seval],?_⟩;exact ih (i+1) _ _ (by omega) ⟨by omega,F',s',a,by simp [aB,r0,r1,ah,r2,r3,r9,r10]⟩
     . intro N a _;simp only [BZ,cls,seval];refine⟨by simp only [aJ,aR,aH,aT,aI,ne_eq,not_false_eq_true,aY,bC,aQ,aN,bF,bW,aD,XW,r0,r1,r2,r3,ah,au C,ar C,seval],?_⟩;exact ie rfl ⟨rfl,.inr (.inl ⟨_,rfl,a⟩)⟩
   . simp only [BZ,r10,r11,aF,hlt,seval];have:i=d.length:=(by omega);subst this;exact cy (cd ⟨rfl,_,rfl,rfl,.inl ⟨_,F,rfl,by simpa [qH]using B⟩⟩)
 . exact⟨by omega,F,s,B,by simp [aB,dh,ah]⟩
theorem ints_set(l:List Int)(i:Nat)(x:Int):(ints l).set i (.int .i64 x)=ints (l.set i x):=by
 have e4: ∀l:List Int,ints l=l.map fun x=>Value.int .i64 x:=fun l=>by unfold ints;rw [Xf,XE,Xf];rfl
 rw [e4,e4,Ym]
theorem reach_ok(Y:OZ h0){G arc far:Nat}{U vO:Value}{V:List (Value×Value×Nat)}{f:Int->Option Value}{j:List Int}
 (R:Row h0 br [p,U,.slice (some ⟨d,0,none⟩) N N,vO,.map (some G)] 1) (H:cE h0 F p N K) (Z:N<=1000) (a:h0.get G=some (.map V c)) (MI:dL V c f) (CF:ClF O f) (t:Row h0 d (ints j) 1) (D:j.length=N) (I:v<N)
 (Q:d∉F) (d2:br∉F) (d3:br≠d):
 Ret zM 237 [ptrTo br,.int .i64 v,.int .i64 arc,.int .i64 far] h0 fun _ h'=>Mo (fun c=>c∈F\/c=d) h0 h'/\ ∃F' m,cE h' F' p N (jN O K v far)/\(∀b∈F',b∈F\/h0.n<=b)/\Row h' d (ints m) 1/\m.length=N/\((jN O K v far=K/\m=j)\/(v∉O/\jN O K v far=dp K v (some (far:Int))/\m=j.set v arc)):=by
 have S:=Si Y;have ad:=t.lt Y;have J:=R.load1 (o:=0) rfl;have E:=R.load1 (o:=4) rfl;have l2:=R.load1 (o:=2) rfl;have pp: ∃b,p=ptrTo b:=by obtain⟨b,_,_,e,_⟩:=H.ex;exact⟨b,e⟩
 obtain⟨bp,rfl⟩:=pp;refine aa (n:=59) (rs:=[]) rfl Tryz.e237 rfl rfl rfl (lbt rfl) ?_;simp only [BZ,J,seval];refine ag (yO S.ok H) ?_;intro h g;replace S:=S.call g;clear g;replace a:h.get G=some (.map V c):=S.gr.at a;have T:=H.gr S.gr;have y:=li (x:=(v:Int)) Tryz.t230.1 Tryz.t3.1 (z:=.int .i64 0) (by kernel_rfl) a MI;rw [CF v]at y;replace J:=S.old J (fun h=>h);replace E:=S.old E (fun h=>h);replace l2:=S.old l2 (fun h=>h);replace t:Row h d (ints j) 1:=t.gr S.gr;have R1:=R.gr S.gr;have u:=S.gr;by_cases q:v∈O
 . rw [if_pos q,Xt]at y;simp only [BZ,E,y,seval];exact⟨u.fr,F,j,by unfold jN;rw [if_pos q];exact T,fun b l=>.inl l,t,D,.inl ⟨by unfold jN;rw [if_pos q],rfl⟩⟩
 . rw [if_neg q,Xz]at y;have af:=t.lt u.ok;cases L:K v with
   | none=>
     have w:jN O K v far=dp K v (some (far:Int)):=(by unfold jN;rw [if_neg q,L]);simp only [BZ,J,E,y,Xz,Xj,seval];refine step_ret (pH u.ok T I Z L) ?_;rintro r A ⟨s,F',W,M⟩;have B:Row A d (ints j) 1:=s.has (o:=.row _ 1) t Q;have X:Row A br [ptrTo bp,U,.slice (some ⟨d,0,none⟩) N N,vO,.map (some G)] 1:=s.has (o:=.row _ 1) R1 d2;have C:=X.load1 (o:=2) rfl;have S:=St.init1 s.ok (o:=.row _ 1) B;simp only [BZ,C,I,seval];refine aC (aE S (i:=0) rfl Tryz.t3.2.2.1 aZ (by rw [cC,D];exact I) ono) ?_;clear S;rintro h3 ⟨S,P⟩;simp only [LC]at S;rw [ints_set]at S;simp only [BZ];refine⟨(u.fr.trans (s.mono (fun c a=>.inl a)) (fun c a=>.inl a):Mo (fun c=>c∈F\/c=d) h0 A).trans P (fun c a=>.inl (.inr a)),F',j.set v arc,by rw [w];exact W.mo P (fun b l e=>by subst e;rcases M b l with h|h;exact Q h;omega),fun b l=>(M b l).imp (fun h=>h) (fun h=>Xk u.n h),S.row m0,by rw [Xh];exact D,.inr ⟨q,w,rfl⟩⟩
   | some k=>
     by_cases hle:k<=(far:Int)
     . have w:jN O K v far=K:=(by unfold jN;rw [if_neg q,L];simp only [];rw [if_pos hle]);simp only [BZ,E,y,hle,Xt,seval];exact⟨u.fr,F,j,by rw [w];exact T,fun b l=>.inl l,t,D,.inl ⟨w,rfl⟩⟩
     . have w:jN O K v far=dp K v (some (far:Int)):=(by unfold jN;rw [if_neg q,L];simp only [];rw [if_neg hle]);simp only [BZ,J,E,y,hle,Xt,seval];refine step_ret (qT u.ok T Z L (by omega)) ?_;rintro r A ⟨s,W⟩;have B:Row A d (ints j) 1:=s.has (o:=.row _ 1) t Q;have X:Row A br [ptrTo bp,U,.slice (some ⟨d,0,none⟩) N N,vO,.map (some G)] 1:=s.has (o:=.row _ 1) R1 d2;have C:=X.load1 (o:=2) rfl;have S:=St.init1 s.ok (o:=.row _ 1) B;simp only [BZ,C,I,seval];refine aC (aE S (i:=0) rfl Tryz.t3.2.2.1 aZ (by rw [cC,D];exact I) ono) ?_;clear S;rintro h3 ⟨S,P⟩;simp only [LC]at S;rw [ints_set]at S;simp only [BZ];refine⟨(u.fr.trans (s.mono (fun c a=>.inl a)) (fun c a=>.inl a):Mo (fun c=>c∈F\/c=d) h0 A).trans P (fun c a=>.inl (.inr a)),F,j.set v arc,by rw [w];exact W.mo P (fun b l e=>by subst e;exact Q l),fun b l=>.inl l,S.row m0,by rw [Xh];exact D,.inr ⟨q,w,rfl⟩⟩
end Go.Ab

/- Nets, cells, flags: what the functions do (part 2). -/
import Derived.Test.YtddjlflghenhkaaGreatDoorKctA
open Go.Ab.Tryz
open Go.Ab.Tryz renaming abEnv->zM,e3E->XO,e330E->X9
open List renaming replicate->zO,getD_eq_getElem?_getD->Xa,getElem?_eq_getElem->Xb,mem_of_getElem?->Xd,mem_append_left->Xe,flatMap_eq_foldl->Xf,length_set->Xh,mem_append_right->Xl,getElem?_eq_none->Xm,getElem?_map->Xp,take->Xq,drop->Xr,getElem?_replicate->Xs,map_cons->Xv,ext_getElem?->Xw,length_take->Xy,getElem_mem->XA,map_eq_flatMap->XE,nodup_cons->XF,append_nil->XG,length_append->XH,range->XJ,nodup_append->XK,mem_cons->XN,length_replicate->XP,take_append_of_le_length->XR,drop_zero->XU,filterMap_nil->XV,getElem?_append_right->XX,drop_eq_getElem_cons->XY,length_map->X6,mem_of_mem_take->Ya,getElem?_append->Yb,mem_cons_of_mem->Yc,getElem?_range->Yd,flatMap_append->Ye,take_replicate->Yf,replicate_zero->Yg,map_nil->Yk,map_set->Ym
open Int renaming cast_ofNat_Int->Xc,toNat_natCast->XL,ofNat_eq_natCast->X8,ofNat->Yi
open Nat renaming lt_of_succ_le->Xg,ble_eq_true_of_le->Xi,le_trans->Xk,mul_one->Xn,zero_add->Xo,zero_mul->Xx,one_mul->XC,le_refl->XD,lt_of_lt_of_le->XI,zero_le->XM,beq->XS,ble->XT,le_total->XZ,eq_of_beq_eq_true->X7,beq_refl->Yh,sub_self->Yj,le_of_lt->Yl
open Option renaming isSome_none->Xj,getD_some->Xt,getD_none->Xz,map_some->XB,map_none->XQ
open Prod renaming fst->Xu
open Bool renaming and_true->XW
set_option maxHeartbeats 4000000
set_option linter.defProp false
set_option linter.unusedVariables false
set_option linter.unusedSimpArgs false
namespace Go.Ab
variable{x:Int}
variable{y:Operand}
variable{N a b b1 b2 br c cap d e i j k m n s u v:Nat}
variable{p pn w z:Value}
variable{D M:Nat->Prop}
variable{h h' h0 hq:Hp}
variable{B F O xs:List Nat}
variable{g:FuncId}
variable{L:Nat->Nat}
variable{cs:List Value}
variable{E:Env}
variable{t:TypeId}
variable{kd:IntKind}
variable{ρ:Operand->Value}
variable{key pi:Nat->Int}
variable{K:Nat->Option Int}
variable{γ:Gra}
def EM(l:List (Int×Value×Nat)):List (Value×Value×Nat):=l.map fun p=>(.int .i64 p.1,p.2.1,p.2.2)
def dY(f:Int->Option Value)(x:Int)(v:Option Value):Int->Option Value:=fun y=>if y=x then v else f y
def dN(a:List (Value×Value×Nat))(c:Nat)(f:Int->Option Value):Prop:=
 ∃l,a=EM l/\(l.map Xu).Nodup/\(l.map fun p=>p.2.2).Nodup/\(∀p∈l,p.2.2<c)/\ ∀x v,f x=some v↔ ∃n,(x,v,n)∈l
theorem v8{y:Int}:cJ (.int .i64 x) (.int .i64 y)=some (decide (x=y)):=by show some (jh x y)=_;congr 1;rw [po]
theorem CZ{l:List (Int×Value×Nat)}(a:(l.map Xu).Nodup){v:Value}(h:(x,v,n)∈l):bK (.int .i64 x) (EM l)=some (some (v,n)):=by
 induction l with
 |nil=>cases h
 | cons p l b=>
   obtain⟨y,w,m⟩:=p;show(match cJ (.int .i64 x) (.int .i64 y)with|none=>none|some true=>some (some (w,m))|some false=>bK (.int .i64 x) (EM l))=_;rw [v8];grind
theorem find_miss{l:List (Int×Value×Nat)}(h:x∉l.map Xu):bK (.int .i64 x) (EM l)=some none:=by
 induction l with
 |nil=>rfl| cons p l a=>
   obtain⟨y,w,m⟩:=p;show(match cJ (.int .i64 x) (.int .i64 y)with|none=>none|some true=>some (some (w,m))|some false=>bK (.int .i64 x) (EM l))=_;simp_all[v8,Xv,XN,not_or,decide_eq_false]
theorem ut{l:List (Int×Value×Nat)}(c:(l.map Xu).Nodup){v:Value}(h:(x,v,n)∈l):
 ∃a b,l=a++(x,v,n)::b/\(∀w,jZ (.int .i64 x) w (EM l)=EM (a++(x,w,n)::b))/\mJ (.int .i64 x) (EM l)=EM (a++b):=by
 induction l with
 |nil=>cases h
 | cons p l d=>
   obtain⟨y,w,m⟩:=p;rw [Xv,XF]at c;by_cases e:x=y
   . subst e;rcases List.mem_cons.1 h with h|h
     . cases h;refine⟨[],l,rfl,fun u=>?_,?_⟩
       . show(match cJ (.int .i64 x) (.int .i64 x)with|some true=>_|_=>_)=_;rw [v8,decide_eq_true rfl];rfl
       . show(match cJ (.int .i64 x) (.int .i64 x)with|some true=>_|_=>_)=_;rw [v8,decide_eq_true rfl];rfl
     grind
   . rcases List.mem_cons.1 h with h|h
     . grind
     grind[cJ,jZ,EM,v8,decide_eq_false,mJ]
theorem wK{a b:List (Int×Value×Nat)}{v:Value}(c:((a++(x,v,n)::b).map fun p=>p.2.2).Nodup):jD n w (EM (a++(x,v,n)::b))=some (EM (a++(x,w,n)::b)):=by
 induction a with
 | nil=>
   show(bif XS n n then _ else _)=_;rw [Yh];rfl
 | cons p a d=>
   obtain⟨y,u,m⟩:=p;rw [List.cons_append,Xv,XF]at c;grind[XS,X7,absurd,jD,EM]
theorem fst_app{a b:List (Int×Value×Nat)}{v:Value}:(a++(x,v,n)::b).map Xu=a.map Xu++x::b.map Xu:=by simp
section
variable{es:List (Value×Value×Nat)}{c:Nat}{f:Int->Option Value}{x:Int}
theorem nJ:dN [] 0 (fun _=>none):=⟨[],rfl,.nil,.nil,fun _ h=>(by cases h),fun x v=>⟨fun h=>(by cases h),fun⟨_,h⟩=>(by cases h)⟩⟩
theorem dN.hit(h:dN es c f){v:Value}(hf:f x=some v): ∃n,bK (.int .i64 x) es=some (some (v,n)):=by obtain⟨l,rfl,a,b,d,e⟩:=h;grind[hf,CZ]
theorem dN.miss(h:dN es c f)(hf:f x=none):bK (.int .i64 x) es=some none:=by obtain⟨l,rfl,e,g,i,a⟩:=h;refine find_miss fun b=>?_;obtain⟨⟨y,v,n⟩,d,rfl⟩:=List.mem_map.1 b;have:=(a y v).2 ⟨n,d⟩;grind
theorem xd{a b:List (Int×Value×Nat)}{v:Value}(e:((a++(x,v,n)::b).map Xu).Nodup)(j:((a++(x,v,n)::b).map fun p=>p.2.2).Nodup)(g: ∀p∈a++(x,v,n)::b,p.2.2<c)
 (k: ∀x' v',f x'=some v'↔ ∃h,(x',v',h)∈a++(x,v,n)::b):dN (EM (a++(x,w,n)::b)) c (dY f x (some w)):=by
 have i:=e;rw [fst_app,XK]at i;refine⟨_,rfl,by grind,by grind,fun p d=>?_,fun y u=>?_⟩
 . rcases List.mem_append.1 d with d|d
   . grind
   . rcases List.mem_cons.1 d with rfl|d
     . exact g (x,v,n) (by simp)
     grind
 . unfold dY;grind
theorem xu{l:List (Int×Value×Nat)}(g:(l.map Xu).Nodup)(h:(l.map fun p=>p.2.2).Nodup)(i: ∀p∈l,p.2.2<c)(b: ∀x' v',f x'=some v'↔ ∃d,(x',v',d)∈l)(hf:f x=none):
 dN (EM (l++[(x,w,c)])) (c+1) (dY f x (some w)):=by
 have j:x∉l.map Xu:=fun e=>by obtain⟨⟨y,v,n⟩,a,rfl⟩:=List.mem_map.1 e;have:=(b y v).2 ⟨n,a⟩;grind
 refine⟨_,rfl,?_,?_,fun p a=>?_,fun y u=>?_⟩
 . grind
 . grind
 . grind
 . unfold dY;grind
theorem em_app(l:List (Int×Value×Nat))(v:Value)(n:Nat):EM l++[(.int .i64 x,v,n)]=EM (l++[(x,v,n)]):=by unfold EM;grind
theorem dN.put(h:dN es c f)(v:Value): ∃es' c',(match bK (.int .i64 x) es with|none=>none|some (some _)=>some (jZ (.int .i64 x) v es,c)|some none=>some (es++[(.int .i64 x,v,c)],c+1))=some (es',c')/\dN es' c' (dY f x (some v)):=by
 cases hf:f x with
 | none=>
   rw [h.miss hf];obtain⟨l,rfl,d,i,j,g⟩:=h;exact⟨_,_,rfl,by rw [em_app];exact xu d i j g hf⟩
 | some w=>
   obtain⟨n,e⟩:=h.hit hf;rw [e];obtain⟨l,rfl,d,i,j,g⟩:=h;obtain⟨m,k⟩:=(g x w).1 hf;obtain⟨a,b,rfl,o,_⟩:=ut d k;exact⟨_,_,rfl,by rw [o];exact xd d i j g⟩
theorem del_miss{l:List (Int×Value×Nat)}(h:x∉l.map Xu):mJ (.int .i64 x) (EM l)=EM l:=by
 induction l with
 |nil=>rfl| cons p l a=>
   obtain⟨y,w,m⟩:=p;simp only [Xv,XN,not_or]at h;grind[cJ,mJ,EM,v8,decide_eq_false]
theorem dN.del(h:dN es c f):dN (mJ (.int .i64 x) es) c (dY f x none):=by
 obtain⟨l,rfl,d,o,g,i⟩:=h;cases hf:f x with
 | none=>
   have q:x∉l.map Xu:=fun e=>(by obtain⟨⟨y,v,n⟩,j,rfl⟩:=List.mem_map.1 e;have:=(i y v).2 ⟨n,j⟩;grind);rw [del_miss q];refine⟨l,rfl,d,o,g,fun y u=>?_⟩;unfold dY;grind
 | some w=>
   obtain⟨m,e⟩:=(i x w).1 hf;obtain⟨a,b,rfl,_,r⟩:=ut d e;rw [r];have k:=d;rw [fst_app,XK]at k;obtain⟨t,s,z⟩:=k;rw [XF]at s;refine⟨a++b,rfl,?_,?_,fun p j=>g p ?_,fun y u=>?_⟩
   . grind
   . grind
   . grind
   . unfold dY;grind
theorem dN.ent(h:dN es c f)(z:Value): ∃d q n,(match bK (.int .i64 x) es with|none=>none|some (some (v,n))=>some (jZ (.int .i64 x) v es,c,v,n)|some none=>some (es++[(.int .i64 x,z,c)],c+1,z,c))=some (d,q,(f x).getD z,n)/\dN d q (dY f x (some ((f x).getD z)))/\
 ∀w,∃es2,jD n w d=some es2/\dN es2 q (dY f x (some w)):=by
 cases hf:f x with
 | none=>
   rw [h.miss hf];obtain⟨l,rfl,g,i,o,j⟩:=h;have k:=xu (w:=z) g i o j hf;refine⟨_,_,_,rfl,by rw [em_app];exact k,fun w=>?_⟩;rw [em_app];obtain⟨u,e,y,A,B,C⟩:=k;have t:((l++(x,z,c)::[]).map fun p=>p.2.2).Nodup:=(by grind);exact⟨_,wK t,xu g i o j hf⟩
 | some v=>
   obtain⟨l,rfl,g,i,o,j⟩:=h;obtain⟨m,r⟩:=(j x v).1 hf;rw [CZ g r];obtain⟨a,b,rfl,s,_⟩:=ut g r;refine⟨_,_,_,rfl,by rw [s];exact xd g i o j,fun w=>?_⟩;rw [s];exact⟨_,wK (by simpa using i),xd g i o j⟩
end
section
variable{M:Nat->Prop}{h0 h:Hp}{L:List (Nat×Ob)}{G:List GL}{E:Env}{t kt el:TypeId}{b c:Nat}{es:List (Value×Value×Nat)}{f:Int->Option Value}{x:Int}
theorem ur(a:E.und kt=some (.int .i64)):bU E kt (.int .i64 x)=true:=by simp only [bU,a];rfl
theorem nK(a:E.und t=some (.map kt el))(d:E.und kt=some (.int .i64))(g:E.zeroV el=some z)(i:h.get b=some (.map es c))(m:dN es c f):
 dC E h t (.map (some b)) (.int .i64 x) true=some (.tuple #[(f x).getD z,.bool (f x).isSome]):=by
 simp only [dC,a,ur d,cond_true,i];cases hf:f x with
 |none=>rw [m.miss hf];simp [g]|some v=>obtain⟨n,e⟩:=m.hit hf;rw [e];simp
theorem lG(a:E.und t=some (.map kt el))(d:E.und kt=some (.int .i64))(g:E.zeroV el=some z)(i:h.get b=some (.map es c))(m:dN es c f):
 dC E h t (.map (some b)) (.int .i64 x) false=some ((f x).getD z):=by
 simp only [dC,a,ur d,cond_true,i];cases hf:f x with
 |none=>rw [m.miss hf];simp [g]|some v=>obtain⟨n,e⟩:=m.hit hf;rw [e];simp
theorem qA{x:Blk}{es':List (Value×Value×Nat)}{c':Nat}(a:h.get b=some x):(h.put b (.map es' c')).get b=some (.map es' c'):=by rw [Hp.get_put,if_pos ⟨rfl,by rw [a];rfl⟩]
theorem St.mputI(S:St M h0 h L G)(a:L[i]? =some (b,.map es c))(e:E.und t=some (.map kt el))(g:E.und kt=some (.int .i64))(m:dN es c f)(v:Value):
 ∃h',ey E h t (.map (some b)) (.int .i64 x) v=some h'/\Mo (· =b) h h'/\ ∃es' c',dN es' c' (dY f x (some v))/\St M h0 h' (L.set i (b,.map es' c')) G:=by
 have d:h.get b=some (.map es c):=(S.own _ (Xd a)).2;obtain⟨es',c',k,j⟩:=m.put (x:=x) v;refine⟨h.put b (.map es' c'),?_,(Mo.refl (M:=(· =b)) S.ok).put (.inr rfl) _,es',c',j,S.put a (o':=.map es' c') (qA d)⟩;simp only [ey,kD,e,ur g,cond_true,d];grind
theorem St.mdelI(S:St M h0 h L G)(a:L[i]? =some (b,.map es c))(g:E.und t=some (.map kt el))(j:E.und kt=some (.int .i64))(m:dN es c f):
 ∃h',oO E h t (.map (some b)) (.int .i64 x)=some h'/\Mo (· =b) h h'/\ ∃es' c',dN es' c' (dY f x none)/\St M h0 h' (L.set i (b,.map es' c')) G:=by
 have d:h.get b=some (.map es c):=(S.own _ (Xd a)).2;refine⟨h.put b (.map (mJ (.int .i64 x) es) c),?_,(Mo.refl (M:=(· =b)) S.ok).put (.inr rfl) _,_,c,m.del (x:=x),S.put a (o':=.map _ c) (qA d)⟩;simp only [oO,kD,g,ur j,cond_true,d];cases hf:f x with
 |none=>rw [m.miss hf]|some v=>obtain⟨n,e⟩:=m.hit hf;rw [e]
theorem St.mentI(S:St M h0 h L G)(a:L[i]? =some (b,.map es c))(e:E.und t=some (.map kt el))(g:E.und kt=some (.int .i64))(j:E.zeroV el=some z)(m:dN es c f):
 ∃ h' n,lh E h t (.map (some b)) (.int .i64 x)=some (h',.tuple #[(f x).getD z,.int .i64 (Yi n)])/\Mo (· =b) h h'/\ ∃es' c',dN es' c' (dY f x (some ((f x).getD z)))/\St M h0 h' (L.set i (b,.map es' c')) G/\
   ∀w,∃es2,jD n w es'=some es2/\dN es2 c' (dY f x (some w)):=by
 have d:h.get b=some (.map es c):=(S.own _ (Xd a)).2;obtain⟨es',c',n,o,k,l⟩:=m.ent (x:=x) z;refine⟨h.put b (.map es' c'),n,?_,(Mo.refl (M:=(· =b)) S.ok).put (.inr rfl) _,es',c',k,S.put a (o':=.map es' c') (qA d),l⟩;simp only [lh,kD,e,ur g,cond_true,d,j];grind
theorem St.mstoreI(S:St M h0 h L G)(a:L[i]? =some (b,.map es c)){es2:List (Value×Value×Nat)}(e:jD n w es=some es2):
 ∃h',n8 h (.map (some b)) (.int .i64 (Yi n)) w=some h'/\Mo (· =b) h h'/\St M h0 h' (L.set i (b,.map es2 c)) G:=by
 have d:h.get b=some (.map es c):=(S.own _ (Xd a)).2;refine⟨h.put b (.map es2 c),?_,(Mo.refl (M:=(· =b)) S.ok).put (.inr rfl) _,S.put a (o':=.map es2 c) (qA d)⟩;simp only [n8,d,je,e]
end
def oa(x:Hd):List Value:=[.int .i64 x.id,.int .i64 x.key]
theorem mw(x:Hd):(oa x).length=2:=rfl
structure eS(cs:List Value)(cap:Nat)(l:List Hd):Prop where
 len:cs.length=cap*2
 le:l.length<=cap
 at0: ∀i,i<l.length->cs[i*2]? =some (.int .i64 (l.getD i default).id)/\cs[i*2+1]? =some (.int .i64 (l.getD i default).key)
def mq(f:Int->Option Value)(l:List Hd):Prop:=(∀i,i<l.length->f (l.getD i default).id=some (.int .i64 i))/\ ∀x v,f x=some v-> ∃i,i<l.length/\x=(l.getD i default).id
section
variable{h:Hp}{bl cap i:Nat}{cs:List Value}{l:List Hd}{md:Nat}
theorem eS.ld0(c:eS cs cap l)(r:Row h bl cs md)(a:i<l.length):h.load bl (i*2) 1=some [.int .i64 (l.getD i default).id]:=r.load1 (c.at0 i a).1
theorem eS.ld1(c:eS cs cap l)(r:Row h bl cs md)(a:i<l.length):h.load bl (i*2+1) 1=some [.int .i64 (l.getD i default).key]:=r.load1 (c.at0 i a).2
theorem eS.ld2(c:eS cs cap l)(r:Row h bl cs md)(a:i<l.length):h.load bl (i*2) 2=some [.int .i64 (l.getD i default).id,.int .i64 (l.getD i default).key]:=by have d:=(c.at0 i a).1;have b:=(c.at0 i a).2;have e:=(List.getElem?_eq_some_iff.1 b).1;rw [r.load (by omega)];grind[XY,List.getElem?_eq_some_iff]
theorem xg{x y:Value}(a:i*2+2<=cs.length)(j:Nat):(lay cs (i*2) [x,y])[j]? =if j=i*2 then some x else if j=i*2+1 then some y else cs[j]? :=by rw [lu (by simpa using a)];grind
theorem eS.set(c:eS cs cap l)(d:i<l.length)(x:Hd):eS (lay cs (i*2) [.int .i64 x.id,.int .i64 x.key]) cap (l.set i x):=by
 have f:=c.len;have hle:=c.le;have a:i*2+2<=cs.length:=by omega
 refine⟨by grind[qD],by grind,fun j b=>?_⟩;rw [Xh]at b;rw [xg a,xg a,rf];by_cases e:i=j
 . grind
 . rw [if_neg (by omega),if_neg (by omega),if_neg (by omega),if_neg (by omega),if_neg (by omega)];exact c.at0 j b
theorem eS.setKey(c:eS cs cap l)(a:i<l.length)(k:Int):eS (lay cs (i*2+1) [.int .i64 k]) cap (l.set i ⟨(l.getD i default).id,k⟩):=by
 have d:=c.len;have hle:=c.le;have e:lay cs (i*2+1) [.int .i64 k]=lay cs (i*2) [.int .i64 (l.getD i default).id,.int .i64 k]:=by
  refine Xw fun j=>?_;rw [xg (by omega),lu (by simp;omega)];simp only [List.length_cons,List.length_nil];by_cases b:j=i*2
  . subst b;rw [if_neg (by omega),if_pos rfl];exact(c.at0 i a).1
  grind
 rw [e];exact c.set a ⟨(l.getD i default).id,k⟩
end
theorem set_sw(l:List Hd)(i k:Nat):(l.set i (l.getD k default)).set k (l.getD i default)=sw l i k:=rfl
theorem mq.inj{f:Int->Option Value}{l:List Hd}(h:mq f l)(a:i<l.length)(b:j<l.length)(e:(l.getD i default).id=(l.getD j default).id):i=j:=by have c:=h.1 i a;have d:=h.1 j b;grind
theorem mq.swap{f:Int->Option Value}{l:List Hd}(h:mq f l)(a:i<l.length)(c:k<l.length):
 mq (dY (dY f ((sw l i k).getD i default).id (some (.int .i64 i))) ((sw l i k).getD k default).id (some (.int .i64 k))) (sw l i k):=by
 have o:=jP l a c i;have p:=jP l a c k;rw [if_pos rfl]at p;refine⟨fun j b=>?_,fun x v n=>?_⟩
 . rw [jb]at b;have d:=jP l a c j;unfold dY;by_cases g:j=k
   . grind
   . rw [if_neg g]at d;by_cases m:j=i
     . subst m;rw [if_neg,if_pos rfl];rw [if_neg g,if_pos rfl]at o;rw [o,p];intro e;exact g (h.inj c a (by omega)).symm
     . rw [if_neg m]at d;rw [if_neg,if_neg]
       . rw [d];exact h.1 j b
       . rw [d,o];intro e
         split at e
         . exact m (h.inj b a (by omega))
         . rename_i e3;rw [if_pos rfl]at e;exact g (h.inj b c (by omega))
       . rw [d,p];intro e;exact m (h.inj b a (by omega))
 . unfold dY at n;by_cases g:x=((sw l i k).getD k default).id
   . grind[jb]
   . rw [if_neg g]at n;by_cases m:x=((sw l i k).getD i default).id
     . grind[jb]
     . rw [if_neg m]at n;obtain⟨j,b,e⟩:=h.2 x v n;refine⟨j,by rw [jb];exact b,?_⟩;have d:=jP l a c j;grind
structure ii(h:Hp)(bh bl bm cap:Nat)(n:Int)(l:List Hd):Prop where
 row:Row h bh [.slice (some ⟨bl,0,some 2⟩) l.length cap,.map (some bm),.int .i64 n] 1
 ex: ∃cs es c f,Row h bl cs 1/\h.get bm=some (.map es c)/\eS cs cap l/\dN es c f/\mq f l
 ne:bh≠bl/\bh≠bm/\bl≠bm
theorem ii.mo{n:Int}{l:List Hd}(r:ii h e i j cap n l)(g:Mo M h h')(m: ¬M e)(p: ¬M i)(q: ¬M j):ii h' e i j cap n l:=by obtain⟨s,k,c,f,a,b,d⟩:=r.ex;exact⟨g.has (o:=.row _ 1) r.row m,⟨s,k,c,f,g.has (o:=.row _ 1) a p,g.has (o:=.map k c) b q,d⟩,r.ne⟩
theorem ii.mo1{n:Int}{l:List Hd}(r:ii h a b d cap n l)(g:Mo M h h')(e: ∀c,c=a\/c=b\/c=d-> ¬M c):ii h' a b d cap n l:=
 r.mo g (e _ (.inl rfl)) (e _ (.inr (.inl rfl))) (e _ (.inr (.inr rfl)))
theorem ii.lt{h:Hp}(e:OZ h){g i j cap:Nat}{n:Int}{l:List Hd}(r:ii h g i j cap n l): ∀c,c=g\/c=i\/c=j->c<h.n:=by
 obtain⟨k,m,c,f,a,b,d⟩:=r.ex;rintro c (rfl|rfl|rfl)
 . exact r.row.lt e
 . exact a.lt e
 . exact iz e b
theorem ii.gr{n:Int}{l:List Hd}(r:ii h a b c cap n l)(g:Gr h h'):ii h' a b c cap n l:=r.mo (M:=NoM) g.fr (fun h=>h) (fun h=>h) (fun h=>h)
theorem St.init2(b:OZ h){o1 o2:Ob}(c:Has h b1 o1)(d:Has h b2 o2)(a:b1≠b2)(m1:M b1)(m2:M b2):St M h h [(b1,o1),(b2,o2)] []:=by refine⟨Mo.refl b,fun p e=>?_,fun _ h=>(by cases h),by simp [keys,a]⟩;grind
theorem St.init3(b:OZ h){o1 o2 o3:Ob}(f:Has h b1 o1)(g:Has h b2 o2)(i:Has h a o3)(c:b1≠b2)(d:b1≠a)(e:b2≠a)(m1:M b1)(m2:M b2)(m3:M a):St M h h [(b1,o1),(b2,o2),(a,o3)] []:=by refine⟨Mo.refl b,fun p j=>?_,fun _ h=>(by cases h),by simp [keys,c,d,e]⟩;grind
open Go.Proofs
set_option maxRecDepth 10000
def nX(a b:Int):Int:=if a<b then-1 else if b<a then 1 else 0
theorem Bb(b:OZ h0){a:Int}:aT zM 189 [.int .i64 a] h0 (.bool false):=by have S:=Si b;refine aa (n:=6) (rs:=[.tmp 2]) rfl Tryz.e189 rfl rfl rfl (lbt rfl) ?_;simp only [BZ,ab,seval];exact S.gr
theorem nanI_ok(b:OZ h0){a:Int}:aT zM 287 [.int .i64 a] h0 (.bool false):=by have S:=Si b;refine aa (n:=6) (rs:=[.tmp 2]) rfl Tryz.e287 rfl rfl rfl (lbt rfl) ?_;simp only [BZ,ab,seval];exact S.gr
theorem Ce(e:OZ h0){a b:Int}:aT zM 111 [.int .i64 a,.int .i64 b] h0 (.int .i64 (nX a b)):=by
 have S:=Si e;unfold nX;refine aa (n:=20) (rs:=[.tmp 4]) rfl Tryz.e111 rfl rfl rfl (lbt rfl) ?_;simp only [BZ,seval];refine am (Bb S.ok) ?_;intro h g;replace S:=S.call g;clear g;simp only [BZ,seval];refine am (Bb S.ok) ?_;intro h g;replace S:=S.call g;clear g;by_cases c:a<b
 . simp only [BZ,ab,c,seval];exact S.gr
 . by_cases d:b<a
   . simp only [BZ,ab,c,d,seval];exact S.gr
   . simp only [BZ,ab,c,d,seval];exact S.gr
theorem cmpInt_ok(e:OZ h0){a b:Int}:aT zM 283 [.int .i64 a,.int .i64 b] h0 (.int .i64 (nX a b)):=by
 have S:=Si e;unfold nX;refine aa (n:=20) (rs:=[.tmp 4]) rfl Tryz.e283 rfl rfl rfl (lbt rfl) ?_;simp only [BZ,seval];refine am (nanI_ok S.ok) ?_;intro h g;replace S:=S.call g;clear g;simp only [BZ,seval];refine am (nanI_ok S.ok) ?_;intro h g;replace S:=S.call g;clear g;by_cases c:a<b
 . simp only [BZ,ab,c,seval];exact S.gr
 . by_cases d:b<a
   . simp only [BZ,ab,c,d,seval];exact S.gr
   . simp only [BZ,ab,c,d,seval];exact S.gr
theorem or2_ok(p:OZ h0){v:Value}{a b:Int}(g:az h0 1 (encI .i64) v [a,b]):aT zM 282 [v] h0 (.int .i64 (if a=0 then b else a)):=by
 have S:=Si p;obtain⟨h,j,q,e⟩:=g.ix (kd:=.i64) (bV .i64) (i:=0) (by simp);obtain⟨k,l,r,f⟩:=g.ix (kd:=.i64) (bV .i64) (i:=1) (by simp);have c:m9 (some 1) v (.int .i64 0)=some (.pointer (some ⟨h,j,none⟩)):=q;have d:m9 (some 1) v (.int .i64 1)=some (.pointer (some ⟨k,l,none⟩)):=r;replace e:h0.load h j 1=some [.int .i64 a]:=e;replace f:h0.load k l 1=some [.int .i64 b]:=f;have s:au .i64 1=1:=rfl;have t:au .i64 2=2:=rfl;refine aa (n:=18) (rs:=[.tmp 2]) rfl Tryz.e282 rfl rfl rfl (lbt rfl) ?_;simp only [BZ,Xc,g.lenq,seval];rw [cF];by_cases m:a=0
 . simp only [BZ,c,e,m,s,seval];rw [cF];by_cases o:b=0
   . simp only [BZ,d,f,o,t,seval];rw [cF];simp only [BZ,ab,seval];exact S.gr
   . simp only [BZ,ab,d,f,o,seval];exact S.gr
 . simp only [BZ,ab,c,e,m,seval];exact S.gr
theorem BX(t:OZ h0){w B:Nat}{n:Int}{l:List Hd}(R:ii h0 u w B cap n l)(r:i<l.length)(s:k<l.length):
 aT zM 273 [ptrTo u,.int .i64 i,.int .i64 k] h0 (.bool (decide (hlt (l.getD i default) (l.getD k default)))):=by
 have S:=Si t;obtain⟨E,F,c,f,d,G,C,H,I⟩:=R.ex;have a:=R.row.load1 (o:=0) rfl;have e:=C.ld0 d r;have j:=C.ld1 d r;have m:=C.ld0 d s;have p:=C.ld1 d s;refine aa (n:=44) (rs:=[.tmp 6]) rfl Tryz.e273 rfl rfl rfl (lbt rfl) ?_;simp only [BZ];refine ar (aw rfl) (q:=17179869184) (ps:=[(16,32),(16,28),(16,24),(16,20)]) (by kernel_rfl) ?_;simp only [BZ,cls,a,r,s,j,p,seval];refine bg (Ce S.ok) ?_;intro h g;replace S:=S.call g;replace a:=g.load a;replace e:=g.load e;replace j:=g.load j;replace m:=g.load m;replace p:=g.load p;have x:leaves _ _ w=true:=ah g (d.lt t);have y:leaves _ _ u=true:=ah g (R.row.lt t);clear g;simp only [BZ,cls,a,r,s,e,m,seval];refine bg (cmpInt_ok S.ok) ?_;intro J g;replace S:=S.call g;replace a:=g.load a;replace e:=g.load e;replace j:=g.load j;replace m:=g.load m;replace p:=g.load p;clear g;simp only [BZ,cls,seval];refine cL (ce (by exact Tryz.t41.1) (by exact XO) (by decide) (by rfl)) S ?_;clear S;intro h v S z A;simp only [LC,bJ,cq,ag,Xx,Xo,Xn,XC,seval]at S;simp only [BZ,cls,seval];have D:az h 1 (encI .i64) (.slice (some ⟨v,0,none⟩) 2 2) [nX (l.getD i default).key (l.getD k default).key,nX (l.getD i default).id (l.getD k default).id]:=.inr ⟨v,0,none,2,rfl,XD _,S.lds (b:=v) (o:=0) (n:=2*1) m0 (lbt rfl)⟩;refine bg (or2_ok S.ok D) ?_;intro K g;replace S:=S.call g;clear g;simp only [BZ,cls,ab,seval];refine⟨by simp only [aK,aO,aH,aQ,aJ,ne_eq,not_false_eq_true,aS,bz,aN,aM,bG,bS,aC,XW,an,aq x,aq y,ao x,ao y,seval],?_⟩;have e3:decide ((if nX (l.getD i default).key (l.getD k default).key=0 then nX (l.getD i default).id (l.getD k default).id else nX (l.getD i default).key (l.getD k default).key)<0)=decide (hlt (l.getD i default) (l.getD k default)):=by
  congr 1;rw [eq_iff_iff];unfold nX hlt
  repeat' split
  all_goals omega
 exact⟨by rw [e3],S.gr⟩
theorem vI(Z:OZ h0){g:Nat}{n:Int}{l:List Hd}(R:ii h0 u d g cap n l)(t:i<l.length)(p:k<l.length):
 Ret zM 250 [ptrTo u,.int .i64 i,.int .i64 k] h0 fun v h'=>Mo (fun c=>c=d\/c=g) h0 h'/\ii h' u d g cap n (sw l i k):=by
 obtain⟨V,es,c,f,F,hm,C,MI,IF⟩:=R.ex;have S:=St.init2 (M:=fun c=>c=d\/c=g) Z (o1:=.row V 1) (o2:=.map es c) F hm R.ne.2.2 (.inl rfl) (.inr rfl);have E: ¬(u=d\/u=g):=fun h=>h.elim R.ne.1 R.ne.2.1;have G:=R.row.load1 (o:=0) rfl;have r1:=R.row.load1 (o:=1) rfl;have i2:=C.ld2 F t;have k2:=C.ld2 F p;have W:=C.len;have ac:=C.le;refine aa (n:=62) (rs:=[]) rfl Tryz.e250 rfl rfl rfl (lbt rfl) ?_;simp only [BZ];refine ar (aw rfl) (q:=0) (ps:=[]) (by kernel_rfl) ?_;simp only [BZ,cls,G,t,p,i2,k2,seval];refine cM (S.store (i:=0) rfl Tryz.t330.2.1 (by intro x e;cases e) rfl rfl (by omega) ono) ?_;clear S;rintro h ⟨S,r⟩;clear r;have H:=C.set t (l.getD k default);simp only [LC,ag]at S;have j:=S.old G E;simp only [BZ,cls,p,seval];generalize lay V (i*2) _=I at S H;have ad:=H.len;refine cM (S.store (i:=0) (off:=k*2) rfl Tryz.t330.2.1 (by intro x e;cases e) rfl rfl (by omega) ono) ?_;clear S;rintro h ⟨S,r⟩;clear r;have y:=H.set (i:=k) (by rw [Xh];exact p) (l.getD i default);simp only [LC,ag]at S;generalize lay I (k*2) _=s at S y;rw [set_sw]at y;clear j;have j:=S.old G E;have A:=S.old r1 E;have J:i<(sw l i k).length:=by rw [jb];exact t
 have K:k<(sw l i k).length:=by rw [jb];exact p
 have X:=y.ld0 (S.row m0) J;have Y:=y.ld0 (S.row m0) K;simp only [BZ,seval];refine ar (aw rfl) (q:=0) (ps:=[]) (by kernel_rfl) ?_;simp only [BZ,cls,j,A,t,p,X,Y,seval];refine mI (P:=fun h' v=> ∃n a m,v=.tuple #[(f ((sw l i k).getD i default).id).getD (.int .i64 0),.int .i64 (Yi n)]/\St (fun c=>c=d\/c=g) h0 h' [(d,.row s 1),(g,.map a m)] []/\ ∀w,∃b,jD n w a=some b/\dN b m (dY f ((sw l i k).getD i default).id (some w))) ?_ ?_
 . obtain⟨h',n,L,_,a,m,_,e4,e5⟩:=S.mentI (i:=1) (x:=(((sw l i k).getD i default).id:Int)) rfl Tryz.t230.1 Tryz.t3.1 (z:=.int .i64 0) (by kernel_rfl) MI;exact⟨h',_,L,n,a,m,rfl,e4,e5⟩
 clear S X Y j A;rintro h v ⟨s1,af,c1,rfl,S,N⟩;obtain⟨b,O,Q⟩:=N (.int .i64 i);simp only [BZ,cls,X8,seval];refine cM (S.mstoreI (i:=1) rfl O) ?_;clear S;rintro h ⟨r,S⟩;clear r;simp only [LC]at S;simp only [BZ,cls,seval];refine mI (P:=fun h' v=> ∃n a m,v=.tuple #[(dY f ((sw l i k).getD i default).id (some (.int .i64 i)) ((sw l i k).getD k default).id).getD (.int .i64 0),.int .i64 (Yi n)]/\St (fun c=>c=d\/c=g) h0 h' [(d,.row s 1),(g,.map a m)] []/\ ∀w,∃b,jD n w a=some b/\dN b m (dY (dY f ((sw l i k).getD i default).id (some (.int .i64 i))) ((sw l i k).getD k default).id (some w))) ?_ ?_
 . obtain⟨h',n,L,_,a,m,_,e4,e5⟩:=S.mentI (i:=1) (x:=(((sw l i k).getD k default).id:Int)) rfl Tryz.t230.1 Tryz.t3.1 (z:=.int .i64 0) (by kernel_rfl) Q;exact⟨h',_,L,n,a,m,rfl,e4,e5⟩
 clear S;rintro h v ⟨s2,al,c3,rfl,S,B⟩;obtain⟨T,D,U⟩:=B (.int .i64 k);simp only [BZ,cls,X8,seval];refine cM (S.mstoreI (i:=1) rfl D) ?_;clear S;rintro h ⟨r,S⟩;clear r;simp only [LC]at S;simp only [BZ,seval];refine⟨S.fr,?_,⟨s,T,c3,_,S.row m0,(S.own _ m1).2,y,U,IF.swap t p⟩,R.ne⟩;rw [jb];exact S.fr.has (o:=.row _ 1) R.row E
theorem up_ok(t:OZ h0){n:Int}{l:List Hd}(R:ii h0 b d e cap n l)(r:i<l.length)(x:l.length<1000000)(U:uf l i):
 Ret zM 253 [ptrTo b,.int .i64 i] h0 fun v h'=>Mo (fun c=>c=d\/c=e) h0 h'/\ ∃l',ii h' b d e cap n l'/\l'.Perm l/\oG l':=by
 refine aa (n:=23) (rs:=[]) rfl Tryz.e253 rfl rfl rfl (lbt rfl) ?_;simp only [BZ];refine bj (fun(i:Nat) m h=>i<l.length/\Mo (fun c=>c=d\/c=e) h0 h/\ ∃l',ii h b d e cap n l'/\l'.Perm l/\uf l' i/\m 0=ptrTo b/\m 1=.int .i64 i) (fun i=>i) ?_ i _ _ ?_
 . intro i u m h ⟨r,a,l',R,pm,U,r0,r1⟩;have s:=pm.length_eq;by_cases o:i=0
   . subst o;simp only [BZ,Xc,r1,seval];exact⟨a,l',R,pm,up_done U (.inl rfl)⟩
   . have w:(0:Int)<(i:Int):=(by omega);have p:au .i64 ((i:Int)-1)=((i-1:Nat):Int):=(by rw [wrap64]<;>omega);have q:au .i64 (((i-1:Nat):Int).tdiv 4)=(((i-1)/4:Nat):Int):=(by rw [Int.tdiv_eq_ediv_of_nonneg (by omega),show(((i-1:Nat):Int)/4)=(((i-1)/4:Nat):Int) by omega,wrap64]<;>omega);simp only [BZ,r0,r1,w,p,q,mS (n:=4) (by decide),seval];refine am (BX a.ok R (i:=i) (k:=(i-1)/4) (by omega) (by omega)) ?_;intro h g;replace R:=R.gr g;replace a:=a.trans (M':=NoM) g.fr (fun _ h=>h.elim);clear g;by_cases j:hlt (l'.getD i default) (l'.getD ((i-1)/4) default)
     . simp only [BZ,r0,r1,p,q,mS (n:=4) (by decide),j,seval];refine step_ret (vI a.ok R (i:=i) (k:=(i-1)/4) (by omega) (by omega)) ?_;rintro v h ⟨f,R⟩;replace a:=a.trans f (fun _ h=>.inl h);simp only [BZ,r1,p,q,mS (n:=4) (by decide),seval];exact u ((i-1)/4) _ _ (by omega) ⟨by omega,a,_,R,(vp l' (by omega) (by omega)).trans pm,up_step (by omega) U (by omega) j,by simp [aD,r0,an]⟩
     . simp only [BZ,mS (n:=4) (by decide),j,seval];exact⟨a,l',R,pm,up_done U (.inr (yg j))⟩
 . exact⟨r,Mo.refl t,l,R,.refl _,U,by simp [cK,an],by simp [cK,dw]⟩
theorem St.monoM{L:List (Nat×Ob)}{G:List GL}(S:St NoM h0 h L G):St M h0 h L G:=
 ⟨S.fr.mono (fun _ h=>h.elim),fun p a=>⟨(S.own p a).1.imp (fun h=>h) (fun h=>h.elim),(S.own p a).2⟩,fun p a=>⟨(S.gown p a).1,fun b c=>((S.gown p a).2 b c).imp (fun h=>h) (fun h=>h.elim)⟩,S.apart⟩
theorem below_ok(d:OZ h0):Ret zM 274 [ptrTo c,.int .i64 i] h0 fun v h'=>Gr h0 h'/\ ∃b1 b2,v=.func (.func 284) #[] #[ptrTo b1,ptrTo b2]/\h0.n<=b1/\h0.n<=b2/\h'.load b1 0 1=some [.int .i64 i]/\h'.load b2 0 1=some [ptrTo c]:=by have S:=Si d;refine aa (n:=6) (rs:=[.tmp 4]) rfl Tryz.e274 rfl rfl rfl (lbt rfl) ?_;simp only [BZ,seval];refine ae (bN (by exact bH)) S ?_;clear S;intro h b2 S a;simp only [BZ,if_false,seval];refine ae (bN (by exact aU)) S ?_;clear S;intro h b1 S b;simp only [BZ,ab,seval];exact⟨S.gr,b1,b2,rfl,b,a,S.ld m0 rfl,S.ld m1 rfl⟩
theorem Ee(b:OZ h0){p:Addr}(e:h0.load b1 0 1=some [.int .i64 i])(q:h0.load b2 0 1=some [ptrTo k])(z:h0.load k 0 1=some [.slice (some p) n cap])(H:n<1000000)(I:i<1000000):
 Iter zM 284 [] [ptrTo b1,ptrTo b2] h0 (fun c=>c=b1\/c=b2\/c=k) ((XJ (min 4 (n-(4*i+1)))).map fun j=>[.int .i64 ((4*i+1+j:Nat):Int)]):=by
 refine vq fun A J Z Y h F s l=>?_;refine enter (n:=28) (rs:=[]) rfl Tryz.e284 rfl rfl rfl (lbt rfl) ?_;have d:=s.load b e (.inl rfl);have m:au .i64 (4*(i:Int))=((4*i:Nat):Int):=by rw [wrap64]<;>omega
 have B:au .i64 (((4*i:Nat):Int)+1)=((4*i+1:Nat):Int):=by rw [wrap64]<;>omega
 have r:au .i64 (((4*i:Nat):Int)+4)=((4*i+4:Nat):Int):=by rw [wrap64]<;>omega
 simp only [BZ,d,m,B,seval];refine bj (fun(j:Nat) f h=>j<=min 4 (n-(4*i+1))/\ ∃F,ItS h0 (fun c=>c=b1\/c=b2\/c=k) h F/\J j h F/\f 0=.func (.yield A) #[] #[]/\f 1=ptrTo b1/\f 2=ptrTo b2/\f 4=.int .i64 ((4*i+1+j:Nat):Int)) (fun j=>min 4 (n-(4*i+1))-j) ?_ 0 _ _ ?_
 . clear d;intro j C f h ⟨hjm,F,s,l,r0,r1,r2,r4⟩;have d:=s.load b e (.inl rfl);have u:=s.load b q (.inr (.inl rfl));have x:=s.load b z (.inr (.inr rfl));by_cases hlt:j<min 4 (n-(4*i+1))
   . have o:((4*i+1+j:Nat):Int)<=((4*i+4:Nat):Int):=(by omega);have t:4*i+1+j<n:=(by omega);have w:au .i64 (((4*i+1+j:Nat):Int)+1)=((4*i+1+(j+1):Nat):Int):=(by rw [wrap64]<;>omega);simp only [BZ,r0,r1,r2,r4,d,u,x,m,r,o,t,aG,seval];refine du Y s l (i:=j) (by rw [Xp,Yd hlt];rfl) ?_ ?_ ?_
     . intro y D a E _ _;simp only [BZ,r4,w,seval];exact C (j+1) _ _ (by omega) ⟨by omega,D,E,a,by simp [aD,r0,r1,an,r2]⟩
     . intro y a _;simp only [BZ,seval];exact iE rfl ⟨rfl,.inr (.inl ⟨_,rfl,a⟩)⟩
     . intro v y a;simp only [BZ];exact fj (cu ⟨rfl,.inr (.inr ⟨_,rfl,a⟩)⟩)
   . have G:j=min 4 (n-(4*i+1)):=(by omega);have g:YQ J Z (min 4 (n-(4*i+1))) (.ret (ab [])) none h:=⟨rfl,.inl ⟨_,F,rfl,by rw [<-G];exact l⟩⟩;by_cases o:((4*i+1+j:Nat):Int)<=((4*i+4:Nat):Int)
     . have t: ¬4*i+1+j<n:=(by omega);simp only [BZ,r1,r2,r4,d,u,x,m,r,o,t,aG,seval];exact cE (cu ⟨rfl,_,rfl,by simpa using g⟩)
     . simp only [BZ,r1,r4,d,m,r,o,seval];exact cE (cu ⟨rfl,_,rfl,by simpa using g⟩)
 . exact⟨by omega,F,s,l,by simp [aD,c8,an]⟩
theorem down_ok  (ok:OZ h0) {z A:Nat} {n:Int} {l:List Hd} (R:ii h0 u z A cap n l) {i:Nat} (C:i<l.length\/(l=[]/\i=0)) (hl:l.length<100000) (D:vh l i):
 Ret zM 251 [ptrTo u,.int .i64 i] h0 fun v h'=>Mo (fun c=>c=z\/c=A) h0 h'/\ ∃l',ii h' u z A cap n l'/\l'.Perm l/\oG l':=by
 have lt:=R.lt ok;have S:=Si ok;have K: ∀{L:List (Nat×Ob)},(∀c∈keys L [],h0.n<=c)-> ∀c,c=u\/c=z\/c=A-> ¬c∈keys L []:=fun H c s hm=>by have:=lt c s;have:=H c hm;omega
 refine aa (n:=27) (rs:=[]) rfl Tryz.e251 rfl rfl rfl (lbt rfl) ?_;simp only [BZ,seval];refine ae aA S ?_;clear S;intro h I S P;simp only [BZ,seval];refine aE (aF S (i:=0) rfl ?_ ?_ ?_ ono) ?_
 . exact(by simp only [FA0])
 . exact(by exact eh)
 . exact Xg (lbt rfl)
 clear S;rintro h ⟨S,Q⟩;clear Q;simp only [LC,ag,lay,Xq,Xr,seval]at S;simp only [BZ];have RR:=R.gr S.gr;replace S:=S.monoM (M:=fun c=>c=z\/c=A);refine rV (fun(i:Nat) ρ d h=> ∃(r:List Nat) (l':List Hd),d=r.map rX/\St (fun c=>c=z\/c=A) h0 h (dP r++[(I,.row [.func (.func 273) #[ptrTo u] #[]] 1)]) []/\(∀c∈keys (dP r++[(I,Ob.row [.func (.func 273) #[ptrTo u] #[]] 1)]) [],h0.n<=c)/\
  ii h u z A cap n l'/\l'.Perm l/\vh l' i/\(i<l.length\/(l=[]/\i=0))/\ρ 0=ptrTo u/\ρ 1=.int .i64 i/\ρ 4=ptrTo I) (fun i=>l.length-i) ?_ i _ _ _ ?_
 . clear S RR R D C i;intro i ih ρ d hS ⟨r,l',hd,S0,H,R,pm,D,C,r0,r1,r4⟩;have ay:=pm.length_eq;have ad:i<1000000:=(by rcases C with C|⟨_,C⟩<;>omega);have S:=S0.base;have Rs:=R;have n0:h0.n<=hS.n:=S0.fr.n;simp only [BZ,r1,seval];refine ae aA S ?_;clear S;intro h w S U;simp only [BZ,seval];refine aE (aF S (i:=0) rfl ?_ ?_ ?_ ono) ?_
   . exact(by simp only [FA0])
   . exact(by exact aU)
   . exact Xg (lbt rfl)
   clear S;rintro h ⟨S,Q⟩;clear Q;simp only [LC,ag,lay,Xq,Xr,seval]at S;simp only [BZ,r0,r1,seval];have gq:=S.fr.n;have aL:=S.key_lt (b:=w) (by simp [keys]);refine step_ret (below_ok S.ok) ?_;intro v h ⟨g,b1,b2,e,n1,n2,q1,q2⟩;replace S:=S.call g;clear g;subst e;simp only [BZ];replace R:=R.mo1 S.fr (K H);have gh:=S.fr.n;refine iD S (g:=284) (a:=#[]) (b:=#[ptrTo b1,ptrTo b2]) (by simp [bG,aD,an]) rfl rfl ?_;intro h2 E N V a0 a1 g2;have kb: ∀c∈keys (dP r++[(I,Ob.row [.func (.func 273) #[ptrTo u] #[]] 1)]) [],c<b1/\c<b2:=fun c s=>(by have:=S0.key_lt s;have:=U;omega);generalize hB:dP r++[(I,Ob.row [.func (.func 273) #[ptrTo u] #[]] 1)]=B at S V S0 H kb;have mf:(I,Ob.row [.func (.func 273) #[ptrTo u] #[]] 1)∈B:=(by rw [<-hB];exact Xl _ m0);obtain⟨X,hX,V⟩: ∃X:gu,X=_/\St (· ∈keys B []) hS h2 ((N,.loop X)::(E,.dfr)::(w,.row [.int .i64 (i:Nat)] 1)::B) []:=⟨_,rfl,V⟩;have R2:=R.gr g2;have ch: ∀j,j<min 4 (l'.length-(4*i+1))->4*i+1+j<l'.length/\(4*i+1+j-1)/4=i:=fun j hj=>⟨by omega,by omega⟩;have hY:Yld zM N (fun j h' F=> ∃m:Nat,St (· ∈keys B []) hS h' ((N,.loop X)::(E,.dfr)::(w,.row [.int .i64 (m:Nat)] 1)::B) []/\F=keys ((N,.loop X)::(E,.dfr)::(w,.row [.int .i64 (m:Nat)] 1)::B) []/\
    (m<l'.length\/(l'=[]/\m=i))/\hle (l'.getD m default) (l'.getD i default)/\(∀q,q<j->hle (l'.getD m default) (l'.getD (4*i+1+q) default))/\(m=i\/(0<m/\(m-1)/4=i/\hlt (l'.getD m default) (l'.getD i default)))) (fun _ _=>False) ((XJ (min 4 (l'.length-(4*i+1)))).map fun j=>[.int .i64 ((4*i+1+j:Nat):Int)]):=by
    refine⟨?_,?_,fun _ _ h=>h.elim,?_⟩
    . rintro j h F ⟨m,S,rfl,_⟩;exact⟨S.ok,fun b t=>S.key_lt t⟩
    . rintro j h F h' ⟨m,S,rfl,k⟩ g;exact⟨m,S.call g,rfl,k⟩
    . rintro j x h F hx ⟨m,S,rfl,G,k2,W,Y⟩;have Z:j<min 4 (l'.length-(4*i+1)):=(by have:=(List.getElem?_eq_some_iff.1 hx).1;simpa using this);rw [Xp,Yd Z]at hx;cases hx;obtain⟨c1,c2⟩:=ch j Z;replace G:=G.resolve_right (by intro e;rw [e.1]at c1;simp at c1);obtain⟨X0,af⟩: ∃x,x=X:=⟨_,rfl⟩;subst hX;refine iB (S.get m0) (by rw [Tryz.e251];rfl) rfl ?_;have S1:=S;replace S:=S.base;simp only [BZ,seval];refine ib S (i:=0) rfl rfl rfl rfl rfl ?_;clear S;intro h S;simp only [LC]at S;have lf:h.load I 0 1=some [.func (.func 273) #[ptrTo u] #[]]:=S.ld (o:=0) (.tail _ (.tail _ (.tail _ mf))) rfl;simp only [BZ,r4,lf,S.ld (b:=w) (o:=0) m2 rfl,seval];have ai: ∀c∈keys ((N,Ob.loop X0)::(E,.dfr)::(w,.row [.int .i64 (m:Nat)] 1)::B) [],h0.n<=c:=fun c s=>(S1.key_own s).elim (fun h=>by omega) (fun h=>H c h);clear af;have Rc:ii h u z A cap n l':=(Rs.mo1 S1.fr (K H)).mo1 S.fr (K ai);refine am (BX S.ok Rc c1 G) ?_;intro h g;replace S:=S.call g;clear g Rc lf;by_cases O:hlt (l'.getD (4*i+1+j) default) (l'.getD m default)
      . simp only [BZ,O,seval];refine aE (aF S (i:=2) rfl ?_ ?_ ?_ ono) ?_
        . exact(by simp only [FA0])
        . exact(by exact aU)
        . exact Xg (lbt rfl)
        clear S;rintro h ⟨S,Q⟩;clear Q;simp only [LC,ag,lay,Xq,Xr,seval]at S;simp only [BZ];refine d6 S (i:=0) rfl ?_;clear S;intro h S;simp only [LC]at S;refine .inl ⟨rfl,_,⟨4*i+1+j,S1.rebase S,rfl,.inl c1,mr (uJ O) k2,fun q hq=>?_,.inr ⟨by omega,c2,?_⟩⟩,S.fr,S.key_new⟩
        . by_cases e:q=j
          . subst e;exact xh _
          . exact mr (uJ O) (W q (by omega))
        . rcases Y with rfl|⟨_,_,Y⟩
          . exact O
          . unfold hlt at*;omega
      . simp only [BZ,O,seval];refine d6 S (i:=0) rfl ?_;clear S;intro h S;simp only [LC]at S;refine .inl ⟨rfl,_,⟨m,S1.rebase S,rfl,.inl G,k2,fun q hq=>?_,Y⟩,S.fr,S.key_new⟩;by_cases e:q=j
        . subst e;exact yg O
        . exact W q (by omega)
   refine cR (Cp (Ee S.ok q1 q2 (R.row.load1 (o:=0) rfl) (by omega) ad) hY (h:=h2) (F:=keys ((N,.loop X)::(E,.dfr)::(w,.row [.int .i64 (i:Nat)] 1)::B) []) g2.fr (fun b t hlt=>?_) ⟨i,V,rfl,?_,xh _,fun q hq=>by omega,.inl rfl⟩) fun o rc h' y=>jt y ?_
   . have e1:=V.key_own t;rintro(rfl|rfl|rfl)
     . rcases List.mem_cons.1 t with e|t
       . omega
       . rcases List.mem_cons.1 t with e|t
         . omega
         . rcases List.mem_cons.1 t with e|t
           . simp only []at e;omega
           . have:=(kb _ t).1;omega
     . rcases List.mem_cons.1 t with e|t
       . omega
       . rcases List.mem_cons.1 t with e|t
         . omega
         . rcases List.mem_cons.1 t with e|t
           . simp only []at e;omega
           . have:=(kb _ t).2;omega
     . have:=lt b (.inl rfl);rcases e1 with e1|e1
       . omega
       . have:=H b e1;omega
   . rcases C with C|⟨C,_⟩
     . exact .inl (by omega)
     . right;rw [C]at pm;exact⟨pm.eq_nil,rfl⟩
   . rintro F ⟨m,T,rfl,G,k2,W,Y⟩;rw [X6,List.length_range]at W;subst hX;refine⟨_,T.get m0,Nat.zero_ne_one,?_⟩;replace T:=T.dead;show Run _ _ _ _ _ _ _ _;have p:=T.ld (b:=w) (o:=0) m1 rfl;have Rc:ii _ u z A cap n l':=Rs.mo1 T.fr (K H);have km: ∀q,0<q->q<l'.length->(q-1)/4=i->hle (l'.getD m default) (l'.getD q default):=fun q q0 ql qe=>(by have:=W (q-(4*i+1)) (by omega);rwa [show 4*i+1+(q-(4*i+1))=q by omega]at this);have T0:=S0.rebase T;have ac: ∀c∈keys ((E,Ob.dfr)::(w,.row [.int .i64 (m:Nat)] 1)::B) [],h0.n<=c:=fun c s=>(T.key_own s).elim (fun h=>by omega) (fun h=>H c h);subst hd hB;have T2:=T0.sub (L':=dP (E::r)++[(I,Ob.row [.func (.func 273) #[ptrTo u] #[]] 1)]) (G':=[]) (List.Sublist.cons_cons _ (List.sublist_cons_self _ _)) (List.Sublist.refl _);have J: ∀c∈keys (dP (E::r)++[(I,Ob.row [.func (.func 273) #[ptrTo u] #[]] 1)]) [],h0.n<=c:=fun c s=>ac c (by simp only [keys,XV,XG,dP,Xv,List.cons_append,XN]at s⊢;rcases s with h|h;exact .inl h;exact .inr (.inr h));by_cases e:m=i
     . subst e;simp only [BZ,r1,p,seval];have T3:=T2.base;refine dz (ir (E::r) _ T3 fun h' T4=>⟨rfl,_,rfl,?_⟩);refine⟨(T2.fr.trans T4.fr fun c s=>(T2.key_own s).symm),l',Rc.mo1 T4.fr (K J),pm,dn_done D km⟩
     . have e': ¬((m:Int)=(i:Int)):=(by omega);obtain⟨b0,be,ak⟩:=Y.resolve_left e;replace G:=G.resolve_right (fun h=>e h.2);simp only [BZ,r0,r1,p,e',seval];refine step_ret (vI T2.ok Rc (i:=i) (k:=m) (by omega) G) ?_;rintro v h ⟨f,Rn⟩;have al:=K J;have T3:=T2.step f (fun c s=>.inl s) (fun c s hM=>al c (.inr hM) s);have f2:Mo (fun c=>c=z\/c=A) _ h:=f;have ax:h.load w 0 1=some [.int .i64 (m:Nat)]:=(by have a2:h0.n<=w:=ac w (.tail _ m0);have:=f.get w (bC f.ok0 p) (fun hM=>by have:=lt w (.inr hM);omega);unfold Hp.load at p⊢;rw [this];exact p);simp only [BZ,ax,seval];exact ih m _ _ _ (by omega) ⟨E::r,_,rfl,T3,J,Rn,(vp l' (by omega) G).trans pm,dn_step D b0 G be ak km,.inl (by omega),by simp [aD,r0,an,r4]⟩
 . exact⟨[],l,rfl,S,fun c s=>by simp [keys,dP]at s;subst s;exact P,RR,.refl _,D,C,by simp [aD,cK,an,dw]⟩
theorem mq.push{f:Int->Option Value}{l:List Hd}(h:mq f l){x:Hd}(c:x.id∉l.map Hd.id):mq (dY f x.id (some (.int .i64 l.length))) (l++[x]):=by
 refine⟨fun i b=>?_,fun y v a=>?_⟩
 . unfold dY;simp at b;by_cases e:i=l.length
   . grind
   . rw [pW l _ (by omega),if_neg ?_]
     . exact h.1 i (by omega)
     grind
 . unfold dY at a;by_cases e:y=x.id
   . refine⟨l.length,by simp,?_⟩;grind
   . rw [if_neg e]at a;obtain⟨i,b,d⟩:=h.2 y v a;exact⟨i,by simp;omega,by grind⟩
theorem mq.cut{f:Int->Option Value}{l:List Hd}(h:mq f l)(c:l.length=m+1):mq (dY f (l.getD m default).id none) (l.take m):=by
 refine⟨fun i b=>?_,fun y v a=>?_⟩
 . rw [Xy]at b;rw [getD_take l (by omega)];unfold dY;rw [if_neg ?_]
   . exact h.1 i (by omega)
   . intro e;have:=h.inj (i:=i) (j:=m) (by omega) (by omega) (by omega);omega
 . unfold dY at a;by_cases e:y=(l.getD m default).id
   . grind
   . rw [if_neg e]at a;obtain⟨i,b,d⟩:=h.2 y v a;have:i≠m:=fun e3=>(by grind);exact⟨i,by grind,by grind⟩
theorem mq.setKey{f:Int->Option Value}{l:List Hd}(h:mq f l)(k:Int):mq f (l.set i ⟨(l.getD i default).id,k⟩):=by
 have e: ∀j,((l.set i ⟨(l.getD i default).id,k⟩).getD j default).id=(l.getD j default).id:=fun j=>by grind
 refine⟨fun j a=>?_,fun y v b=>?_⟩
 . rw [e];exact h.1 j (by grind)
 . obtain⟨j,a,c⟩:=h.2 y v b;grind
theorem idxF_nil:mq (fun _=>none) []:=⟨fun i a=>by simp at a,fun x v h=>by cases h⟩
theorem eS.take{cs:List Value}{cap:Nat}{l:List Hd}(c:eS cs cap l)(m:Nat):eS cs cap (l.take m):=
 ⟨c.len,Xk (by grind) c.le,fun i a=>by
  rw [Xy]at a;rw [getD_take l (by omega)];exact c.at0 i (by omega)⟩
theorem eS.push{a:List Value}{cap':Nat}{l:List Hd}(c:eS cs cap l){x:Hd}(d:a.length=cap'*2)(g:l.length<cap')(b: ∀j,j<l.length*2->a[j]? =cs[j]?)(h:a[l.length*2]? =some (.int .i64 x.id)/\a[l.length*2+1]? =some (.int .i64 x.key)):eS a cap' (l++[x]):=by
 refine⟨d,by simp;omega,fun i f=>?_⟩;simp at f;by_cases e:i=l.length
 . grind
 . rw [pW l _ (by omega),b _ (by omega),b _ (by omega)];exact c.at0 i (by omega)
theorem Bp{e:TypeId}{len:Nat}(c:E.und t=some (.slice e))(d:E.sz e=some k)(f:n<=cap):ik E t (.slice (some ⟨b,0,some k⟩) len cap) none (some (.int kd (n:Int))) none=some (.slice (some ⟨b,0,some k⟩) n cap):=by have a: ∀n:Nat,je (n:Int)=some n:=fun n=>rfl;simp_all[ik,ie,hZ,Xi,cond_true,Xj,cond_false,Nat.sub_zero]
section
variable{M:Nat->Prop}{h0 h:Hp}{L:List (Nat×Ob)}{G:List GL}{E:Env}{t tx e:TypeId}{by_:Nat}{zs:List Value}
theorem St.appH{l:List Hd}(S:St M h0 h ((d,.row cs 1)::L) G)(C:eS cs cap l)(F:E.und t=some (.slice e))(H:fk E e by_ 2 zs)(Q:0<by_)(I:by_<=100)(r:eR E tx=some false){x:Hd}(f:aR h 2 z=some (1,oa x))(R:l.length<1000000){ts:List TypeId}:
 ∃h' w,dM E h (t::tx::ts) (.slice (some ⟨d,0,some 2⟩) l.length cap) z=some (h',w)/\ ∃a cap' g,w=.slice (some ⟨a,0,some 2⟩) (l.length+1) cap'/\St M h0 h' ((a,.row g 1)::L) G/\eS g cap' (l++[x])/\(a=d\/h.n<=a):=by
 obtain⟨⟨i,J,rfl,c⟩,K,s⟩:=H;have A:Row h d cs 1:=S.row m0;have B:=C.len;by_cases U:l.length+1<=cap
 . obtain⟨y,V,N⟩:=A.store S.ok ono (o:=l.length*2) (vs:=oa x) (by rw [mw];omega) rfl;refine⟨h.put d y,_,?_,d,cap,_,rfl,S.put (i:=0) rfl N,?_,.inl rfl⟩
   . simp_all[dM,lE,ic,Xi,cond_true,oa,Xo]
   . refine C.push (by grind[qD,mw]) (by omega) (fun j O=>?_) ⟨?_,?_⟩
     . rw [lu (by rw [mw];omega),if_neg (by omega)]
     . rw [lu (by rw [mw];omega),if_pos ⟨XD _,by rw [mw];omega⟩,Yj];rfl
     . rw [lu (by rw [mw];omega),if_pos ⟨by omega,by rw [mw];omega⟩,Nat.add_sub_cancel_left];rfl
 . have D:cap=l.length:=(by have:=C.le;omega);obtain⟨q,W,k,m,P⟩:=A;have u:lg q cs.length 0 (l.length*2) (oa x)=some (q.pushAll cs.length (oa x),cs.length+2):=(by unfold lg;rw [show l.length*2=cs.length by omega,Yh,Yh];rfl);have T:=S.dead.new (x:=.cells (q.pushAll cs.length (oa x)) (cs.length+2) e 1) (o:=.row (cs++oa x) 1) (by
    refine⟨q.pushAll cs.length (oa x),e,?_,?_,fun n=>?_⟩
    . rw [Hp.get_new _ _ S.dead.ok,if_pos rfl,XH];rfl
    . rw [XH];exact Tr.sized_pushAll _ m
    grind[Tr.get_pushAll])
   refine⟨_,.slice (some ⟨h.n,0,some 2⟩) (l.length+1) (l.length+1),?_,h.n,l.length+1,_,rfl,T,?_,.inr (XD _)⟩
   . simp only [dM,r,lE,F,J,c,f];unfold ic;have p:XT (l.length+1) cap=false:=by
      cases r:XT (l.length+1) cap with
      |false=>rfl|true=>exact absurd (lbt r) (by omega)
     rw [p];simp only [cond_false];have b:(XT ((l.length+1)*(i.bytes+1)) 70368744177664&&Nat.blt 0 i.bytes)=true:=(by have:(l.length+1)*(i.bytes+1)<=1000000*101:=Nat.mul_le_mul (by omega) (by omega);rw [Xi (by omega)];simp_all);have v:XS zs.length i.size=true:=(by rw [s,c];rfl);rw [b,K];simp only [cond_true,v];unfold pX;simp only [k,c,u];rfl
   . refine C.push (by rw [XH,mw];omega) (by omega) (fun j O=>?_) ⟨?_,?_⟩
     . grind
     . rw [XX (by omega),show l.length*2-cs.length=0 by omega];rfl
     . rw [XX (by omega),show l.length*2+1-cs.length=1 by omega];rfl
theorem St.appH0(S:St M h0 h L G)(n:E.und t=some (.slice e))(p:fk E e by_ 2 zs)(u:0<by_)(q:by_<=100)(r:eR E tx=some false){x:Hd}{m:Value}(d:aR h 2 m=some (1,oa x)){ts:List TypeId}:
 ∃h' w,dM E h (t::tx::ts) (.slice none 0 0) m=some (h',w)/\ ∃b cap' f,w=.slice (some ⟨b,0,some 2⟩) 1 cap'/\St M h0 h' ((b,.row f 1)::L) G/\eS f cap' [x]/\h.n<=b:=by
 obtain⟨⟨i,j,rfl,c⟩,s,k⟩:=p;have T:=S.new (x:=.cells (Tr.ofList (oa x)) 2 e 1) (o:=.row (oa x) 1) (qR S.ok (oa x) e 1);refine⟨_,.slice (some ⟨h.n,0,some 2⟩) 1 1,?_,h.n,1,_,rfl,T,⟨rfl,by simp,fun i j=>?_⟩,XD _⟩
 . simp only [dM,r,lE,n,j,c,d];unfold ic;have g:XT (0+1) 0=false:=rfl;rw [g];simp only [cond_false];have a:(XT ((0+1)*(i.bytes+1)) 70368744177664&&Nat.blt 0 i.bytes)=true:=(by rw [Xi (by omega)];simp_all);have l:XS zs.length i.size=true:=(by rw [k,c];rfl);rw [a,s];simp only [cond_true,l];unfold pX;rw [show XS 0 0=true from rfl,c];rfl
 . have:i=0:=(by simpa using j);subst this;exact⟨rfl,rfl⟩
theorem St.rowS{N:Int}{g:List (Value×Value×Nat)}{l:List Hd}{f:Int->Option Value}(S:St M h0 h [(b,.row cs 1),(i,.row [.slice (some ⟨b,0,some 2⟩) n cap,.map (some d),.int .i64 N] 1),(d,.map g c)] [])(C:eS cs cap l)(j:n=l.length)(k:dN g c f)(m:mq f l):ii h i b d cap N l:=by subst j;have a:=S.apart;simp only [keys,Xv,Yk,XV,XG,XF,XN,List.not_mem_nil,or_false,not_or]at a;exact⟨S.row m1,⟨cs,g,c,f,S.row m0,(S.own _ m2).2,C,k,m⟩,fun e=>a.1.1 e.symm,a.2.1,a.1.2⟩
end
theorem gY{b:Bool}{a v:Operand}:cV ρ b (.store t a v) h h'=(match ρ a with| .pointer (some a)=>some (.blk a.block)|_=>none):=by simp only [cV,dS,j7,fZ,touch,cond_false];grind
theorem tt{b:Bool}{x:Operand}{ts:Array TypeId}:cV ρ b (.call ⟨.builtin .len,#[x],ts⟩) h h'=(match ρ x with| .map (some r)=>some (.blk r)| .slice (some a) _ _=>some (.blk a.block)|_=>none):=by simp only [cV,dS,j7,fZ,touch,cond_false];grind
theorem dn_del{cx:Cx}{Q:gL}{a:List Oper}{q:Nat}{ps:List (Nat×Nat)}{o:Oper}{os:List Oper}{k:List Fr}{l:Loc}{b:Hp->List (Nat×Tch)}{m key:Value}{P:Hp->Prop}(c: ∃h',oO E h t m key=some h'/\P h')
 (d: ∀h',P h'->Run E (lim E) cx Q (.opsD a q ps os (i+1) (b h')::k) .normal (l.put o.dst (.tuple #[])) h'):DN E cx Q a q ps o os i k l b (delR E h t m key):=by
 obtain⟨h',e,f⟩:=c;unfold delR;rw [e];exact d h' f
structure cG(h:Hp)(F:List Nat)(p:Value)(N:Nat)(K:Nat->Option Int):Prop where
 ex: ∃bh bm l,p=ptrTo bh/\oG l/\ja l K/\(∀x∈l,x.id<N)/\
  ((l=[]/\F=[bh,bm]/\bh≠bm/\Row h bh [.slice none 0 0,.map (some bm),.int .i64 N] 1/\ ∃es c,h.get bm=some (.map es c)/\dN es c (fun _=>none))\/ ∃bl cap,F=[bh,bl,bm]/\ii h bh bl bm cap N l)
theorem cG.mo{M:Nat->Prop}{h h':Hp}{F:List Nat}{p:Value}{N:Nat}{K:Nat->Option Int}(a:cG h F p N K)(g:Mo M h h')(d: ∀b∈F,¬M b):cG h' F p N K:=by
 obtain⟨j,m,l,e,n,q,r,s⟩:=a.ex;refine⟨j,m,l,e,n,q,r,?_⟩;rcases s with⟨t,rfl,u,v,i,c,w,x⟩|⟨y,f,rfl,k⟩
 . exact .inl ⟨t,rfl,u,g.has (o:=.row _ 1) v (d _ (by simp)),i,c,g.has (o:=.map i c) w (d _ (by simp)),x⟩
 . exact .inr ⟨y,f,rfl,k.mo g (d _ (by simp)) (d _ (by simp)) (d _ (by simp))⟩
theorem cG.gr(a:cG h F p N K)(g:Gr h h'):cG h' F p N K:=a.mo (M:=NoM) g.fr (fun _ _ h=>h)
theorem cG.lt{h:Hp}(f:OZ h){F:List Nat}{p:Value}{N:Nat}{K:Nat->Option Int}(a:cG h F p N K): ∀b∈F,b<h.n:=by
 obtain⟨n,o,l,e,q,r,s,g⟩:=a.ex;rcases g with⟨t,rfl,u,i,v,c,j,w⟩|⟨x,m,rfl,k⟩
 . intro b d;simp at d;rcases d with rfl|rfl
   . exact i.lt f
   . exact iz f j
 . intro b d;simp at d;exact k.lt f b d
theorem xI{l:List Hd}(h:ja l K)(a: ∀x∈l,x.id<N):l.length<=N:=by have:=rj N (l.map Hd.id) h.1 (fun x b=>by grind);simpa using this
theorem ue(k:OZ h0):Ret zM 195 [.int .i64 N] h0 fun v h'=>Gr h0 h'/\ ∃F,cG h' F v N (fun _=>none)/\ ∀b∈F,h0.n<=b:=by
 have S:=Si k;have l:max (N:Int) 0=(N:Int):=by omega
 refine aa (n:=9) (rs:=[.tmp 2]) rfl Tryz.e195 rfl rfl rfl (lbt rfl) ?_;simp only [BZ];refine ae oq S ?_;clear S;intro h f S a;simp only [BZ,l,seval];refine ae (bA (by intro x e;cases e)) S ?_;clear S;intro h b S d;simp only [ag]at S;simp only [BZ,ab,seval];have g:=S.apart;simp only [keys,Xv,Yk,XV,XG,XF,XN,List.not_mem_nil,or_false]at g;refine⟨S.gr,[b,f],⟨b,f,[],rfl,fun j _ m=>(by simp at m),cont_nil,fun x o=>(by cases o),.inl ⟨rfl,rfl,g.1,S.row m0,[],0,(S.own _ m1).2,nJ⟩⟩,fun c i=>?_⟩;simp at i;rcases i with rfl|rfl
 . exact d
 . exact a
section
variable{h0:Hp}{F:List Nat}{p:Value}{N:Nat}{K:Nat->Option Int}
theorem th(f:OZ h0)(H:cG h0 F p N K): ∃m:Nat,aT zM 249 [p] h0 (.int .i64 m)/\(m=0↔ ∀v,K v=none):=by
 obtain⟨g,q,l,rfl,r,d,s,h⟩:=H.ex;refine⟨l.length,?_,?_⟩
 . have S:=Si f;obtain⟨a,n,c,m1,m2,b,i⟩: ∃a n c m1 m2,Row h0 g [.slice a n c,m1,m2] 1/\n=l.length:=by
    rcases h with⟨rfl,_,_,b,_⟩|⟨t,j,_,b⟩
    . exact⟨_,_,_,_,_,b,rfl⟩
    . exact⟨_,_,_,_,_,b.row,rfl⟩
   subst i;have k:=b.load1 (o:=0) rfl;refine aa (n:=11) (rs:=[.tmp 2]) rfl Tryz.e249 rfl rfl rfl (lbt rfl) ?_;simp only [BZ,ab,k,seval];exact S.gr
 . constructor
   . intro e;rw [List.length_eq_zero_iff.1 e]at d;exact d.nil
   . intro e;cases l with
     |nil=>rfl| cons x l=>
       have:=(d.2 x.id x.key).2 (by simp);rw [e]at this;cases this
theorem ye (y:OZ h0) (H:cG h0 F p N K) :aT zM 248 [p,.int .i64 v] h0 (.tuple #[.int .i64 ((K v).getD 0),.bool (K v).isSome]):=by
 have S:=Si y;obtain⟨m,a,A⟩:=th y H;obtain⟨O,P,l,rfl,Q,r,T,I⟩:=H.ex;by_cases b:m=0
 . subst b;have e:=A.1 rfl v;rw [e];refine aa (n:=32) (rs:=[.tmp 4,.tmp 5]) rfl Tryz.e248 rfl rfl rfl (lbt rfl) ?_;simp only [BZ,seval];refine am (a) ?_;intro h g;replace S:=S.call g;clear g;simp only [BZ,ab,Xc,seval];exact⟨rfl,S.gr⟩
 . have d: ¬((m:Int)=0):=(by omega);rcases I with⟨rfl,_⟩|⟨U,J,_,R⟩
   . exact absurd (A.2 r.nil) b
   . refine aa (n:=32) (rs:=[.tmp 4,.tmp 5]) rfl Tryz.e248 rfl rfl rfl (lbt rfl) ?_;simp only [BZ,seval];refine am (a) ?_;intro h g;replace S:=S.call g;replace R:=R.gr g;clear g;obtain⟨V,W,c,f,s,t,C,L,B⟩:=R.ex;have M:=R.row.load1 (o:=0) rfl;have D:=R.row.load1 (o:=1) rfl;have q:=nK (x:=(v:Int)) Tryz.t230.1 Tryz.t3.1 (z:=.int .i64 0) (by kernel_rfl) t L;cases E:K v with
     | none=>
       have u:f v=none:=by
        cases hf:f v with
        |none=>rfl| some w=>
          obtain⟨i,j,e⟩:=B.2 v w hf;have:=r.at j;rw [show(l.getD i default).id=v by omega,E]at this;cases this
       rw [u]at q;simp only [BZ,ab,d,D,q,Xz,Xj,seval];exact S.gr
     | some k=>
       obtain⟨i,j,e⟩:=r.idx E;have u:f v=some (.int .i64 i):=(by have:=B.1 i j;rwa [e]at this);rw [u]at q;have G:=C.ld1 s j;rw [e]at G;simp only [BZ,ab,d,M,D,q,Xt,j,G,seval];exact S.gr
theorem pN(ok:OZ h0)(H:cG h0 F p N K)(hv:v<N)(hN:N<=1000)(P:K v=none){k:Int}:
 Ret zM 209 [p,.int .i64 v,.int .i64 k] h0 fun r h'=>Mo (· ∈F) h0 h'/\ ∃F',cG h' F' p N (dq K v (some k))/\ ∀b∈F',b∈F\/h0.n<=b:=by
 obtain⟨a,s,l,rfl,ho,m,hlt,D⟩:=H.ex;have ad:=xI m hlt;have c1: ¬((v:Int)<0):=by omega
 have c2: ¬((N:Int)<=(v:Int)):=by omega
 have hn:=m.free P;rcases D with⟨rfl,rfl,T,hr,U,c,g,E⟩|⟨G,u,rfl,R⟩
 . have S:=St.init2 (M:=(· ∈[a,s])) ok (o1:=.row _ 1) (o2:=.map U c) hr g T (by simp) (by simp);have Q:=nK (x:=(v:Int)) Tryz.t230.1 Tryz.t3.1 (z:=.int .i64 0) (by kernel_rfl) g E;refine aa (n:=71) (rs:=[.tmp 6]) rfl Tryz.e209 rfl rfl rfl (lbt rfl) ?_;simp only [BZ,Q,c1,c2,Xz,Xj,S.ld (b:=a) (o:=1) m0 rfl,S.ld (b:=a) (o:=2) m0 rfl,seval];refine ar (aw rfl) (q:=0) (ps:=[]) (by kernel_rfl) ?_;simp only [BZ,cls,Xc,S.ld (b:=a) (o:=0) m0 rfl,S.ld (b:=a) (o:=1) m0 rfl,seval];refine cM (S.mputI (i:=1) rfl Tryz.t230.1 Tryz.t3.1 E _) ?_;clear S;rintro h ⟨_,V,c',y,S⟩;simp only [LC]at S;simp only [BZ,S.ld (b:=a) (o:=0) m0 rfl,S.ld (b:=a) (o:=1) m0 rfl,seval];refine ae (ce (by exact Tryz.t321.1) (by exact X9) (by decide) (by rfl)) S ?_;clear S;intro h I S J;simp only [LC,bJ,cq,ag,Xx,Xo,Xn,XC,seval]at S;simp only [BZ,S.ld (b:=a) (o:=0) m1 rfl,S.ld (b:=a) (o:=1) m1 rfl,seval];have j:aR h 2 (.slice (some ⟨I,0,none⟩) 1 1)=some (1,oa ⟨v,k⟩):=(by simp only [aR];rw [S.lds (b:=I) (o:=0) (n:=1*2) m0 (lbt rfl)];rfl);replace S:=S.drop1;refine dQ (S.appH0 Tryz.t321.1 X9 (by decide) (by decide) Tryz.t321.2.2.2.2.2 j) ?_;clear S j;rintro h w ⟨G,u,cs,rfl,S,C,W⟩;simp only [BZ,seval];refine aE (aF S (i:=1) rfl ?_ ?_ ?_ ono) ?_
   . exact(by simp only [FA0])
   . exact(by exact aW)
   . exact Xg (lbt rfl)
   clear S;rintro h ⟨S,X⟩;clear X;simp only [LC,ag,lay,Xq,Xr,seval]at S;simp only [BZ];refine ar (aw rfl) (q:=0) (ps:=[]) (by kernel_rfl) ?_;simp only [BZ,cls,Xc,S.ld (b:=a) (o:=0) m1 rfl,S.ld (b:=a) (o:=1) m1 rfl,seval];have R:ii h a G s u N ([]++[⟨v,k⟩]):=S.rowS C rfl y (idxF_nil.push hn);have Y:au .i64 0=((0:Nat):Int):=rfl;rw [Y];refine bQ (up_ok S.ok R (i:=0) (by simp) (by simp) (Ar ho ⟨v,k⟩)) ?_;have d:=(S.own _ m0).1;rintro r h ⟨f,Z,R',L,A⟩;simp only [BZ,Xc,seval];refine⟨S.fr.trans f (fun c m=>?_),[a,G,s],⟨a,s,Z,rfl,A,(m.push P k).perm L,fun x D=>?_,.inr ⟨G,u,rfl,R'⟩⟩,fun b O=>?_⟩
   . rcases m with rfl|rfl
     . exact d.symm
     . exact .inl (by simp)
   . have:=L.mem_iff.1 D;simp at this;subst this;exact hv
   . simp at O;rcases O with rfl|rfl|rfl
     . exact .inl (by simp)
     . exact d.symm
     . exact .inl (by simp)
 . obtain⟨cs,U,c,f,ac,g,C,E,IF⟩:=R.ex;have S:=St.init3 (M:=(· ∈[a,G,s])) ok (o1:=.row cs 1) (o2:=.row _ 1) (o3:=.map U c) ac R.row g R.ne.1.symm R.ne.2.2 R.ne.2.1 (by simp) (by simp) (by simp);have Q:=nK (x:=(v:Int)) Tryz.t230.1 Tryz.t3.1 (z:=.int .i64 0) (by kernel_rfl) g E;have fv:f v=none:=by
    cases hf:f v with
    |none=>rfl| some w=>
      obtain⟨i,hi,e⟩:=IF.2 v w hf;have:=m.at hi;rw [show(l.getD i default).id=v by omega,P]at this;cases this
   rw [fv]at Q;refine aa (n:=71) (rs:=[.tmp 6]) rfl Tryz.e209 rfl rfl rfl (lbt rfl) ?_;simp only [BZ,Q,c1,c2,Xz,Xj,S.ld (b:=a) (o:=1) m1 rfl,S.ld (b:=a) (o:=2) m1 rfl,seval];refine ar (aw rfl) (q:=0) (ps:=[]) (by kernel_rfl) ?_;simp only [BZ,cls,S.ld (b:=a) (o:=0) m1 rfl,S.ld (b:=a) (o:=1) m1 rfl,seval];refine cM (S.mputI (i:=2) rfl Tryz.t230.1 Tryz.t3.1 E _) ?_;clear S;rintro h ⟨_,V,c',y,S⟩;simp only [LC]at S;simp only [BZ,S.ld (b:=a) (o:=0) m1 rfl,S.ld (b:=a) (o:=1) m1 rfl,seval];refine ae (ce (by exact Tryz.t321.1) (by exact X9) (by decide) (by rfl)) S ?_;clear S;intro h I S J;simp only [LC,bJ,cq,ag,Xx,Xo,Xn,XC,seval]at S;simp only [BZ,S.ld (b:=a) (o:=0) m2 rfl,S.ld (b:=a) (o:=1) m2 rfl,seval];have j:aR h 2 (.slice (some ⟨I,0,none⟩) 1 1)=some (1,oa ⟨v,k⟩):=(by simp only [aR];rw [S.lds (b:=I) (o:=0) (n:=1*2) m0 (lbt rfl)];rfl);replace S:=S.drop1;refine dQ (S.appH C Tryz.t321.1 X9 (by decide) (by decide) Tryz.t321.2.2.2.2.2 j (by omega)) ?_;clear S j;rintro h w ⟨B,t,af,rfl,S,C',W⟩;simp only [BZ,seval];refine aE (aF S (i:=1) rfl ?_ ?_ ?_ ono) ?_
   . exact(by simp only [FA0])
   . exact(by exact aW)
   . exact Xg (lbt rfl)
   clear S;rintro h ⟨S,X⟩;clear X;simp only [LC,ag,lay,Xq,Xr,seval]at S;simp only [BZ];refine ar (aw rfl) (q:=0) (ps:=[]) (by kernel_rfl) ?_;have Y:au .i64 (((l.length+1:Nat):Int)-1)=((l.length:Nat):Int):=(by rw [wrap64]<;>omega);simp only [BZ,cls,Y,S.ld (b:=a) (o:=0) m1 rfl,S.ld (b:=a) (o:=1) m1 rfl,seval];have R:ii h a B s t N (l++[⟨v,k⟩]):=S.rowS C' (by simp) y (IF.push hn);refine bQ (up_ok S.ok R (i:=l.length) (by simp) (by simp;omega) (Ar ho ⟨v,k⟩)) ?_;have d:=(S.own _ m0).1;rintro r h ⟨f,Z,R',L,A⟩;simp only [BZ,seval];refine⟨S.fr.trans f (fun c m=>?_),[a,B,s],⟨a,s,Z,rfl,A,(m.push P k).perm L,fun x D=>?_,.inr ⟨B,t,rfl,R'⟩⟩,fun b O=>?_⟩
   . rcases m with rfl|rfl
     . exact d.symm
     . exact .inl (by simp)
   . have:=L.mem_iff.1 D;simp at this;rcases this with h|rfl
     . exact hlt x h
     . exact hv
   . simp at O;rcases O with rfl|rfl|rfl
     . exact .inl (by simp)
     . exact d.symm
     . exact .inl (by simp)
theorem rE(T:OZ h0)(H:cG h0 F p N K)(hN:N<=1000){t k:Int}(U:K v=some t)(hle:k<=t):
 Ret zM 208 [p,.int .i64 v,.int .i64 k] h0 fun r h'=>Mo (· ∈F) h0 h'/\cG h' F p N (dq K v (some k)):=by
 obtain⟨d,w,l,rfl,V,g,hlt,y⟩:=H.ex;have W:=xI g hlt;obtain⟨i,a,u⟩:=g.idx U;have X:v<N:=by have:=hlt (l.getD i default) (by rw [Xa,Xb a];exact XA a);rwa [u]at this
 have Y: ¬((v:Int)<0):=by omega
 have Z: ¬((N:Int)<=(v:Int)):=by omega
 have c3: ¬(t<k):=by omega
 rcases y with⟨rfl,_⟩|⟨A,j,rfl,R⟩
 . simp at a
 . obtain⟨G,es,c,f,m,q,C,I,J⟩:=R.ex;have S:=St.init3 (M:=(· ∈[d,A,w])) T (o1:=.row G 1) (o2:=.row _ 1) (o3:=.map es c) m R.row q R.ne.1.symm R.ne.2.2 R.ne.2.1 (by simp) (by simp) (by simp);have L:=nK (x:=(v:Int)) Tryz.t230.1 Tryz.t3.1 (z:=.int .i64 0) (by kernel_rfl) q I;have fv:f v=some (.int .i64 i):=(by have:=J.1 i a;rwa [u]at this);rw [fv]at L;have O:=C.ld1 m a;have P:=C.len;have ac:=C.le;have ek:(l.getD i default).key=t:=(by rw [u]);have B:(l.getD i default).id=v:=(by rw [u]);rw [ek]at O;refine aa (n:=61) (rs:=[.tmp 6]) rfl Tryz.e208 rfl rfl rfl (lbt rfl) ?_;simp only [BZ,L,Y,Z,c3,a,O,Xt,S.ld (b:=d) (o:=0) m1 rfl,S.ld (b:=d) (o:=1) m1 rfl,S.ld (b:=d) (o:=2) m1 rfl,seval];refine aE (S.store (i:=0) (off:=i*2+1) rfl Tryz.t2.2.2.1 (by intro x e;cases e) rfl rfl (by omega) ono) ?_;clear S;rintro h ⟨S,_⟩;simp only [LC,ag]at S;have Q:=C.setKey a k;generalize lay G (i*2+1) _=ad at S Q;simp only [BZ,S.ld (b:=d) (o:=0) m1 rfl,S.ld (b:=d) (o:=1) m1 rfl,seval];have R1:ii h d A w j N (l.set i ⟨(l.getD i default).id,k⟩):=S.rowS Q (by rw [Xh]) I (J.setKey k);refine step_ret (up_ok S.ok R1 (i:=i) (by rw [Xh];exact a) (by rw [Xh];omega) (EK V (by unfold Ab.hle;simp only [];omega))) ?_;rintro r h ⟨f,l',R',D,E⟩;simp only [BZ,seval];have s:=g.lower a k;rw [B]at s;refine⟨S.fr.trans f (fun c g=>?_),⟨d,w,l',rfl,E,(by rw [B]at D;exact s.perm D),fun x y=>?_,.inr ⟨A,j,rfl,R'⟩⟩⟩
   . rcases g with rfl|rfl<;>exact .inl (by simp)
   . have:=D.mem_iff.1 y;rcases List.mem_or_eq_of_mem_set this with h|rfl
     . exact hlt x h
     . rw [B];exact X
end
section
variable{h0:Hp}{F:List Nat}{p:Value}{N:Nat}{K:Nat->Option Int}
theorem sZ(ok:OZ h0)(H:cG h0 F p N K)(hN:N<=1000):
 Ret zM 200 [p] h0 fun r h'=>(r=.tuple #[.int .i64 0,.int .i64 0,.bool false]/\(∀v,K v=none)/\Gr h0 h')\/ ∃v k,r=.tuple #[.int .i64 (v:Nat),.int .i64 k,.bool true]/\K v=some k/\(∀u k',K u=some k'->k<k'\/(k=k'/\v<=u))/\Mo (· ∈F) h0 h'/\cG h' F p N (dq K v none):=by
 obtain⟨m,B,O⟩:=th ok H;obtain⟨d,D,l,rfl,ho,t,hlt,hx⟩:=H.ex;have ay:=xI t hlt;by_cases E:m=0
 . subst E;have S:=Si ok;refine aa (n:=55) (rs:=[.tmp 2,.tmp 3,.tmp 4]) rfl Tryz.e200 rfl rfl rfl (lbt rfl) ?_;simp only [BZ,seval];refine am (B) ?_;intro h g;replace S:=S.call g;clear g;simp only [BZ,ab,Xc,seval];exact .inl ⟨O.1 rfl,S.gr⟩
 . have ac: ¬((m:Int)=0):=(by omega);rcases hx with⟨rfl,_⟩|⟨y,cap,rfl,R⟩
   . exact absurd (O.2 t.nil) E
   . have a:0<l.length:=by
      cases l with
      |nil=>exact absurd (O.2 t.nil) E|cons x l=>simp
     have S:=Si ok;refine aa (n:=55) (rs:=[.tmp 2,.tmp 3,.tmp 4]) rfl Tryz.e200 rfl rfl rfl (lbt rfl) ?_;simp only [BZ,seval];refine am (B) ?_;intro h g;replace S:=S.call g;replace R:=R.gr g;clear g;have g0:=S.gr;clear S;obtain⟨cs,es,c,f,z,G,C,MI,IF⟩:=R.ex;have r0:=R.row.load1 (o:=0) rfl;have l2:=C.ld2 z a;have S:=Si g0.ok;have i0:iP (.int .i64 0) l.length=some 0:=ia (i:=0) a;have w1:au .i64 ((l.length:Int)-1)=((l.length-1:Nat):Int):=(by rw [wrap64]<;>omega);simp only [BZ,ac,seval];refine ar (gG (ord:=[14,0,1,2,3,4,5,6,7,8,9,10,11,12,13,15,16]) rfl rfl (by simp only [dE,kJ,dR,List.getElem?_cons_zero,List.getElem?_cons_succ,List.map_toArray,Xv,Yk,cond_true,cond_false,seval];exact rfl)) (q:=1) (ps:=[(13,15),(12,15)]) (by kernel_rfl) ?_;simp only [BZ,cls,seval];refine cL aA S ?_;clear S;intro h s S al ax;simp only [BZ,cls,S.old r0 (fun h=>h),S.old l2 (fun h=>h),i0,w1,seval];refine cM (S.store (i:=0) rfl ?_ ?_ rfl rfl ?_ ono) ?_
     . exact(by exact Tryz.t323.2.1)
     . exact(by intro x e;cases e)
     . exact lbt rfl
     clear S;rintro h ⟨S,mo⟩;clear mo;simp only [LC,ag,lay,Xq,Xr,seval]at S;simp only [BZ,cls,S.old r0 (fun h=>h),S.old l2 (fun h=>h),seval];have g1:=S.gr;have R1:=R.gr g1;have Y:=S.lds (b:=s) (o:=0) (n:=2) m0 (lbt rfl);have A:=R.lt g0.ok;have nb:s≠d:=fun e=>(by have:=A d (.inl rfl);omega);have P:s≠y:=fun e=>(by have:=A y (.inr (.inl rfl));omega);refine⟨by simp only [aK,aO,aH,aQ,aJ,ne_eq,not_false_eq_true,aS,bz,aN,aM,bG,bS,aC,XW,an,gY,tt,dh nb,dh nb.symm,dh P,dh P.symm,seval],?_⟩;have sw:Ret zM 250 [ptrTo d,.int .i64 0,.int .i64 ((l.length-1:Nat):Int)] _ _:=vI S.ok R1 (i:=0) (k:=l.length-1) a (by omega);refine step_ret sw ?_
     --refine step_ret (vI S.ok R1 (i := 0) (k := l.length - 1) a (by omega)) ?_
     rintro r I ⟨Z,L⟩;have gg:Gr h0 h:=g0.trans g1;have mA:Mo (· ∈[d,y,D]) h0 I:=(gg.fr (M:=(· ∈[d,y,D]))).trans Z (fun c t=>.inl (by rcases t with rfl|rfl<;>simp));have J:I.load s 0 2=some [.int .i64 (l.getD 0 default).id,.int .i64 (l.getD 0 default).key]:=(by have:=Z.get s (bC Z.ok0 Y) (fun hM=>by have:=A s (.inr hM);omega);unfold Hp.load at Y⊢;rw [this];exact Y);have aL:=L.lt mA.ok;have ad:=mA.ok;have Q:=bC mA.ok J;clear S R R1 Z sw z G C MI IF Y l2 r0;obtain⟨cs,es,c,f,z,G,C,MI,IF⟩:=L.ex;have S:=St.init3 (M:=(· ∈[d,y,D])) (h:=I) ad (o1:=.row cs 1) (o2:=.row _ 1) (o3:=.map es c) z L.row G L.ne.1.symm L.ne.2.2 L.ne.2.1 (by simp) (by simp) (by simp);have sl:=Bp (kd:=.i64) (b:=y) (len:=(sw l 0 (l.length-1)).length) (n:=l.length-1) Tryz.t321.1 Tryz.t330.2.1 (cap:=cap) (by have:=C.le;rw [jb]at this;omega);simp only [BZ,XB,XQ,sl,S.ld (b:=d) (o:=0) m1 rfl,S.ld (b:=d) (o:=1) m1 rfl,seval];refine aE (aF S (i:=1) rfl ?_ ?_ ?_ ono) ?_
     . exact(by simp only [FA0])
     . exact(by exact aW)
     . exact Xg (lbt rfl)
     clear S;rintro h ⟨S,mo⟩;clear mo;simp only [LC,ag,lay,Xq,Xr,seval]at S;simp only [BZ,S.ld (b:=d) (o:=0) m1 rfl,S.ld (b:=d) (o:=1) m1 rfl];refine ar (aw rfl) (q:=0) (ps:=[]) (by kernel_rfl) ?_;have T: ¬s∈[d,y,D]:=fun O=>(by have:=A s (by simpa using O);omega);have U:I.load s 0 1=some [.int .i64 (l.getD 0 default).id]:=(by have:=ra J (i:=0) (m:=1) (by omega);simpa using this);have af:I.load s 1 1=some [.int .i64 (l.getD 0 default).key]:=(by have:=ra J (i:=1) (m:=1) (by omega);simpa using this);simp only [BZ,cls,S.old U T,S.ld (b:=d) (o:=1) m1 rfl,seval];refine dn_del (S.mdelI (i:=2) rfl Tryz.t230.1 Tryz.t3.1 MI) ?_;clear S;rintro h ⟨_,a0,c',ai,S⟩;simp only [LC]at S;simp only [BZ,seval];have V:(sw l 0 (l.length-1)).length=l.length:=jb _ _ _;have w:=jP l (i:=0) (k:=l.length-1) a (by omega) (l.length-1);rw [if_pos rfl]at w;have W:=IF.cut (m:=l.length-1) (by omega);rw [w]at W;have tl:((sw l 0 (l.length-1)).take (l.length-1)).length=l.length-1:=(by rw [Xy,V];omega);have R3:ii h d y D cap N ((sw l 0 (l.length-1)).take (l.length-1)):=S.rowS (C.take _) tl.symm ai W;have dn:Ret zM 251 [ptrTo d,.int .i64 0] h _:=down_ok S.ok R3 (i:=0) (by
      by_cases e:l.length-1=0
      . exact .inr ⟨List.length_eq_zero_iff.1 (by rw [tl,e]),rfl⟩
      . exact .inl (by omega)) (by omega) (heap_pop ho a)
     refine step_ret dn ?_;rintro r h ⟨fB,l',R',pm,ak⟩;have mB:Mo (· ∈[d,y,D]) I h:=S.fr.trans fB (fun c t=>.inl (by rcases t with rfl|rfl<;>simp));have X: ∀{o x},I.load s o 1=some x->h.load s o 1=some x:=fun e=>(by have:=mB.get s Q T;unfold Hp.load at e⊢;rw [this];exact e);simp only [BZ];refine ar (aw rfl) (q:=0) (ps:=[]) (by kernel_rfl) ?_;simp only [BZ,cls,ab,X U,X af,seval];refine .inr ⟨(l.getD 0 default).id,(l.getD 0 default).key,rfl,t.at a,fun u k' hu=>?_,mA.trans mB (fun c t=>.inl t),⟨d,D,l',rfl,ak,(t.pop a).perm pm,fun x hx=>?_,.inr ⟨y,cap,rfl,R'⟩⟩⟩
     . obtain⟨j,hj,e⟩:=t.idx hu;have:=A7 ho j hj;rw [e]at this;unfold Ab.hle at this;simp only []at this;omega
     . exact hlt x ((vp l a (by omega)).mem_iff.1 (Ya (pm.mem_iff.1 hx)))
end
structure Ev where
 kind:Nat
 id:Nat
 lab:Nat
def iU(e:Ev):List Value:=[.int .i64 e.kind,.int .i64 0,.int .i64 e.id,.int .i64 e.lab]
theorem rx(e:Ev):(iU e).length=4:=rfl
structure SS where
 K:Nat->Option Int
 L:Nat->Nat
 P:Nat->List Nat
 O:List Nat
 ev:List Ev
variable{σ:SS}
structure Fd where
 dist:Nat
 arcs:List Nat
 ev:List Ev
def oe(K:Nat->Option Int)(v:Nat)(k:Int):Prop:=K v=some k/\ ∀u a,K u=some a->k<a\/(k=a/\v<=u)
theorem oe.uniq{k k':Int}(h:oe K v k)(g:oe K u k'):v=u/\k=k':=by have a:=h.2 _ _ g.1;have b:=g.2 _ _ h.1;omega
def m8(P:Nat->List Nat)(v:Nat)(l:List Nat):Nat->List Nat:=fun u=>if u=v then l else P u
def iM(pi:Nat->Int)(σ:SS)(v lab:Nat)(p:List Nat):SS:=
 if v∈σ.O\/(FAR:Int)<=pi v\/((σ.K v).isSome=true/\σ.L v<=lab)then σ else⟨dq σ.K v (some (lab+pi v)),dZ σ.L v lab,m8 σ.P v p,σ.O,σ.ev⟩
def fJ(σ:SS)(v:Nat):SS:=⟨dq σ.K v none,σ.L,σ.P,σ.O++[v],σ.ev++[⟨0,v,σ.L v⟩]⟩
def evS(σ:SS)(e:Ev):SS:=⟨σ.K,σ.L,σ.P,σ.O,σ.ev++[e]⟩
def scan1(A:List Arc)(al:Nat->Bool)(pi:Nat->Int)(v:Nat)(σ:SS)(a:Nat):SS:=
 if al a=true then iM pi (evS σ ⟨1,a,0⟩) (A.getD a default).t (σ.L v+(A.getD a default).w) (a::σ.P v)else σ
def tC(A:List Arc)(al:Nat->Bool)(pi:Nat->Int)(v:Nat)(σ:SS):SS:=(outs A Arc.s A.length v).foldl (scan1 A al pi v) σ
def lW(pi:Nat->Int)(s:Nat):SS:=iM pi ⟨fun _=>none,fun _=>0,fun _=>[],[],[]⟩ s 0 []
inductive Ends(A:List Arc)(al:Nat->Bool)(pi:Nat->Int)(to:Nat):SS->Fd->Prop where
 |none {σ:SS}:(∀v,σ.K v=none)->Ends A al pi to σ ⟨FAR,[],σ.ev⟩
 |hit {σ:SS} {k:Int}:oe σ.K to k->Ends A al pi to σ ⟨σ.L to,(σ.P to).reverse,(fJ σ to).ev⟩
 |step {σ:SS} {v:Nat} {k:Int} {r:Fd}:oe σ.K v k->v≠to->Ends A al pi to (tC A al pi v (fJ σ v)) r->Ends A al pi to σ r
theorem Ends.uniq{A:List Arc}{al:Nat->Bool}{pi:Nat->Int}{to:Nat}{σ:SS}{r q:Fd}(h:Ends A al pi to σ r)(g:Ends A al pi to σ q):r=q:=by
 induction h with
 | none d=>
   cases g with
   |none _=>rfl|hit a=>have:=a.1;grind|step a _ _=>have:=a.1;grind
 | hit a=>
   cases g with
   |none d=>have:=a.1;grind|hit _=>rfl|step c b _=>exact absurd (c.uniq a).1 b
 | step a b _ e=>
   cases g with
   |none d=>have:=a.1;grind|hit c=>exact absurd (a.uniq c).1 b| step c _ f=>
     obtain⟨rfl,_⟩:=a.uniq c;exact e f
section
variable{A:List Arc}{N s:Nat}{al:Nat->Bool}{pi:Nat->Int}{σ:SS}
structure Sv(A:List Arc)(N s:Nat)(al:Nat->Bool)(pi:Nat->Int)(σ:SS):Prop where
 nd:σ.O.Nodup
 lt: ∀v∈σ.O,v<N
 op: ∀v k,σ.K v=some k->v<N/\v∉σ.O/\pi v<(FAR:Int)/\k=σ.L v+pi v
 bd: ∀v,σ.L v<=σ.O.length*cH/\(σ.P v).length<=σ.O.length
 pc: ∀v∈σ.O,pi v<(FAR:Int)
 path: ∀v,(v∈σ.O\/σ.K v≠none)->(v=s/\σ.P v=[]/\σ.L v=0)\/ ∃a,a<A.length/\al a=true/\(A.getD a default).t=v/\(A.getD a default).s∈σ.O/\σ.P v=a::σ.P (A.getD a default).s/\σ.L v=σ.L (A.getD a default).s+(A.getD a default).w
theorem Sv.len(h:Sv A N s al pi σ):σ.O.length<=N:=rj N σ.O h.nd h.lt
theorem Sv.evS(h:Sv A N s al pi σ)(e:Ev):Sv A N s al pi (evS σ e):=⟨h.nd,h.lt,h.op,h.bd,h.pc,h.path⟩
theorem sv_init(b:s<N):Sv A N s al pi (lW pi s):=by
 unfold lW iM;have z:Sv A N s al pi ⟨fun _=>none,fun _=>0,fun _=>[],[],[]⟩:=
  ⟨.nil,fun v h=>(by cases h),fun v k h=>(by cases h),fun v=>⟨XM _,XM _⟩,fun v h=>(by cases h),fun v h=>h.elim (fun h=>by cases h) (fun h=>absurd rfl h)⟩
 split
 . exact z
 . rename_i a;simp only [not_or]at a;refine⟨.nil,fun v h=>(by cases h),fun v k h=>?_,fun v=>⟨?_,?_⟩,fun v h=>(by cases h),fun v h=>?_⟩
   . grind[dq,dZ]
   . simp only [dZ];split<;>simp
   . simp only [m8];split<;>simp
   . by_cases e:v=s
     . subst e;exact .inl ⟨rfl,by simp [m8],by simp [dZ]⟩
     . simp [dq,e]at h
structure oH(σ τ:SS):Prop where
 O:τ.O=σ.O
 L: ∀u∈σ.O,τ.L u=σ.L u
 P: ∀u∈σ.O,τ.P u=σ.P u
theorem oH.refl:oH σ σ:=⟨rfl,fun _ _=>rfl,fun _ _=>rfl⟩
theorem oH.trans{τ b:SS}(h:oH σ τ)(g:oH τ b):oH σ b:=
 ⟨g.O.trans h.O,fun u a=>(g.L u (by rw [h.O];exact a)).trans (h.L u a),fun u a=>(g.P u (by rw [h.O];exact a)).trans (h.P u a)⟩
theorem Sv.reach(h:Sv A N s al pi σ){lab:Nat}{p:List Nat}(o:a<A.length)(d:al a=true)(r:(A.getD a default).t=v)(C:v<N)(f:(A.getD a default).s∈σ.O)(t:lab=σ.L (A.getD a default).s+(A.getD a default).w)(w:p=a::σ.P (A.getD a default).s)
 (b1:lab<=σ.O.length*cH) (b2:p.length<=σ.O.length):Sv A N s al pi (iM pi σ v lab p)/\oH σ (iM pi σ v lab p):=by
 unfold iM
 split
 . exact⟨h,.refl⟩
 . rename_i j;simp only [not_or]at j;obtain⟨x,D,E⟩:=j;have q: ∀u∈σ.O,u≠v:=fun u c e=>x (by grind);refine⟨⟨h.nd,h.lt,fun u k g=>?_,fun u=>⟨?_,?_⟩,h.pc,fun u c=>?_⟩,⟨rfl,fun u c=>by simp [dZ,q u c],fun u c=>by simp [m8,q u c]⟩⟩
   . simp only [dq,dZ]at g⊢
     split at g
     . grind
     . rename_i e;rw [if_neg e];exact h.op u k g
   . simp only [dZ];split
     . exact b1
     . exact(h.bd u).1
   . simp only [m8];split
     . exact b2
     . exact(h.bd u).2
   . have y:dZ σ.L v lab (A.getD a default).s=σ.L (A.getD a default).s:=if_neg (q _ f);have z:m8 σ.P v p (A.getD a default).s=σ.P (A.getD a default).s:=if_neg (q _ f);by_cases e:u=v
     . subst e;refine .inr ⟨a,o,d,r,f,?_,?_⟩
       . show m8 σ.P u p u=a::m8 σ.P u p (A.getD a default).s;rw [z,<-w];exact if_pos rfl
       . show dZ σ.L u lab u=dZ σ.L u lab (A.getD a default).s+(A.getD a default).w;rw [y,<-t];exact if_pos rfl
     . have i:u∈σ.O\/σ.K u≠none:=(by simpa [dq,e]using c);rcases h.path u i with⟨l,m,n⟩|⟨b,l,m,n,B,F,G⟩
       . grind[m8,dZ]
       . refine .inr ⟨b,l,m,n,B,?_,?_⟩
         . simp_all[m8,if_neg]
         simp_all[dZ,if_neg]
theorem Sv.close(h:Sv A N s al pi σ){k:Int}(i:σ.K v=some k):Sv A N s al pi (fJ σ v):=by
 obtain⟨x,j,y,z⟩:=h.op v k i;have l:(σ.O++[v]).length*cH=σ.O.length*cH+cH:=by grind
 refine⟨?_,fun u f=>?_,fun u m f=>?_,fun u=>⟨?_,?_⟩,fun u f=>?_,fun u f=>?_⟩
 . show(σ.O++[v]).Nodup;rw [XK];exact⟨h.nd,by simp,fun a B b C e=>j (by grind)⟩
 . rcases List.mem_append.1 f with f|f
   . exact h.lt u f
   grind
 . simp only [fJ,dq]at f⊢
   split at f
   . cases f
   . rename_i e;obtain⟨a,b,c,d⟩:=h.op u m f;grind
 . show σ.L u<=(σ.O++[v]).length*cH;rw [l];have:=(h.bd u).1;omega
 . show(σ.P u).length<=(σ.O++[v]).length;have:=(h.bd u).2;simp;omega
 . rcases List.mem_append.1 f with f|f
   . exact h.pc u f
   grind
 . have g:u∈σ.O\/σ.K u≠none:=by
    by_cases e:u=v
    . grind
    . simpa [fJ,dq,e]using f
   rcases h.path u g with n|⟨b,o,p,q,r,t,w⟩
   . exact .inl n
   . exact .inr ⟨b,o,p,q,Xe _ r,t,w⟩
def Room(σ:SS)(v:Nat):Prop:=v∈σ.O/\σ.L v+cH<=σ.O.length*cH/\(σ.P v).length+1<=σ.O.length
theorem Room.keeps{τ:SS}(r:Room σ v)(k:oH σ τ):Room τ v:=by obtain⟨a,b,c⟩:=r;exact⟨by rw [k.O];exact a,by rw [k.O,k.L v a];exact b,by rw [k.O,k.P v a];exact c⟩
theorem Sv.room(h:Sv A N s al pi σ)(v:Nat):Room (fJ σ v) v:=by
 have:=h.bd v;refine⟨Xl _ (by simp),?_,?_⟩
 . show σ.L v+cH<=(σ.O++[v]).length*cH;rw [XH,List.length_singleton,Nat.succ_mul];omega
 . show(σ.P v).length+1<=(σ.O++[v]).length;simp;omega
theorem Sv.scan1(h:Sv A N s al pi σ)(d: ∀a∈A,a.t<N/\a.w<=cH){v a:Nat}(r:Room σ v)(e:a<A.length)(f:(A.getD a default).s=v):Sv A N s al pi (scan1 A al pi v σ a)/\oH σ (scan1 A al pi v σ a):=by
 unfold Ab.scan1
 split
 . rename_i b;obtain⟨g,l,i⟩:=r;have j:=d (A.getD a default) (by grind);subst f;obtain⟨k,c⟩:=(h.evS ⟨1,a,0⟩).reach (p:=a::σ.P (A.getD a default).s) (lab:=σ.L (A.getD a default).s+(A.getD a default).w) e b rfl j.1 g rfl rfl (by show _<=σ.O.length*cH;omega) (by show(σ.P _).length+1<=σ.O.length;exact i);exact⟨k,⟨c.O,c.L,c.P⟩⟩
 . exact⟨h,.refl⟩
theorem Sv.scanL(d: ∀a∈A,a.t<N/\a.w<=cH){v:Nat}: ∀(l:List Nat) {σ:SS},Sv A N s al pi σ->Room σ v->(∀a∈l,a<A.length/\(A.getD a default).s=v)->Sv A N s al pi (l.foldl (Ab.scan1 A al pi v) σ)/\oH σ (l.foldl (Ab.scan1 A al pi v) σ)
 | [],_,h,_,_=>⟨h,.refl⟩| a::l,σ,h,r,c=>by obtain⟨f,e⟩:=h.scan1 d r (c a (by simp)).1 (c a (by simp)).2;obtain⟨g,i⟩:=Sv.scanL d l f (r.keeps e) (fun b j=>c b (by simp [j]));exact⟨g,e.trans i⟩
theorem Sv.next(h:Sv A N s al pi σ)(b: ∀a∈A,a.t<N/\a.w<=cH){k:Int}(c:σ.K v=some k):Sv A N s al pi (tC A al pi v (fJ σ v))/\oH (fJ σ v) (tC A al pi v (fJ σ v)):=
 Sv.scanL b _ (h.close c) (h.room v) (fun _ d=>mL.1 d)
def InH(A:List Arc)(al:Nat->Bool)(pi:Nat->Int)(a:Nat):Prop:=al a=true/\pi (A.getD a default).s<(FAR:Int)/\pi (A.getD a default).t<(FAR:Int)
instance (a:Nat):Decidable (InH A al pi a):=by unfold InH;infer_instance
end
def nG(E:Env)(g:FuncId)(a post:List Value)(h0:Hp)(D:Nat->Prop)(xs:List (List Value)):Prop:=
 ∀b J Z,(∀v h,¬Z (.pan v) h)->Yld E b J Z xs-> ∀h F,ItS h0 D h F->J 0 h F->eJ E g (a++[.func (.yield b) #[] #[]]++post) none h (YQ J Z xs.length)
theorem iter_useN{a post:List Value}{xs:List (List Value)}(H:nG E g a post h0 D xs){J:Nat->Hp->List Nat->Prop}{Z:Out->Hp->Prop}(i: ∀v h,¬Z (.pan v) h)(Y:Yld E c J Z xs)
   (d:Mo (fun b=> ¬D b) h0 h) (j: ∀b∈F,b<h0.n-> ¬D b) (f:J 0 h F):eJ E g (a++[.func (.yield c) #[] #[]]++post) none h (YQ J Z xs.length):=
 H c J Z i Y h F ⟨d.ok,d.n,fun b e k=>d.get b e (fun l=>l k),fun b e h=>j b e h.1 h.2,(Y.lt 0 h F f).2⟩ f
theorem dn_yield{cx:Cx}{Q:gL}{a:List Oper}{q:Nat}{ps:List (Nat×Nat)}{o:Oper}{os:List Oper}{k:List Fr}{l:Loc}{d:Hp->List (Nat×Tch)}{J:Nat->Hp->List Nat->Prop}{Z:Out->Hp->Prop}{xs:List (List Value)}{x:List Value}
 (t: ∀v h,¬Z (.pan v) h) (Y:Yld E e J Z xs) (s:ItS h0 D h F) (f:J j h F) (g:xs[j]? =some x)
 (m: ∀h' F',J (j+1) h' F'->ItS h0 D h' F'->Mo (· ∈F) h h'->(∀b∈F',b∈F\/h.n<=b)->Run E (lim E) cx Q (.opsD a q ps os (i+1) (d h')::k) .normal (l.put o.dst (.bool true)) h')
 (k2: ∀h',Z (.ret (.bool false)) h'->OZ h'->Run E (lim E) cx Q (.opsD a q ps os (i+1) (d h')::k) .normal (l.put o.dst (.bool false)) h'):DN E cx Q a q ps o os i k l d (some (.yield e x,h)):=by
 obtain⟨n,h',p,r⟩:=Y.round j x h F g f;refine⟨n,h',p,?_⟩;rcases r with⟨rfl,F',a,b,c⟩|⟨rfl,a,b⟩|⟨⟨v,rfl⟩,a⟩
 . exact m h' F' a (s.mo b c (Y.lt _ _ _ a).2) b c
 . exact k2 h' a b
 grind
def fU(h h':Hp):Prop:= ∀b,b<h.n->h'.get b=h.get b
theorem fU.load{h h':Hp}(a:OZ h)(g:fU h h'){b o n:Nat}{l:List Value}(e:h.load b o n=some l):h'.load b o n=some l:=by have:=g b (bC a e);grind[Hp.load]
theorem fU.row(a:OZ h)(g:fU h h'){l:List Value}{md:Nat}(r:Row h b l md):Row h' b l md:=Row.of_get (g b (r.lt a)) r
theorem az.keep{a:Type}{enc:a->List Value}{v:Value}{xs:List a}(d:OZ h)(g:fU h h')(s:az h k enc v xs):az h' k enc v xs:=by
 rcases s with s|⟨b,o,s,c,e,f,i⟩
 . exact .inl s
 . exact .inr ⟨b,o,s,c,e,f,g.load d i⟩
theorem iN.keep{h h':Hp}{v:Value}{m N:Nat}{R:Nat->List Nat}(d:OZ h)(g:fU h h')(r:iN h m v N R):iN h' m v N R:=by
 obtain⟨e,f,j,k,l,n,o⟩:=r;exact⟨e,f,j,k,g.row d l,n,fun i p=>by
  obtain⟨w,a,b,c⟩:=o i p;exact⟨w,a,b.keep d g,c⟩⟩
theorem aX.keep{h h':Hp}{m:Nat}{p:Value}{γ:Gra}(a:OZ h)(g:fU h h')(n:aX h m p γ):aX h' m p γ:=by obtain⟨b,d,e,f,i,j,k,l,c,o,q,r,s⟩:=n.ex;exact⟨b,d,e,f,i,j,k,g.row a l,⟨c.X.keep a g,c.Y.keep a g,c.A.keep a g⟩,o.keep a g,q.keep a g,r,s⟩
theorem Gr.keep(g:Gr h h'):fU h h':=g.get
theorem fU.trans{a b c:Hp}(x:fU a b)(n:a.n<=b.n)(y:fU b c):fU a c:=fun i d=>(y i (XI d n)).trans (x i d)
theorem ItS.keep(s:ItS h0 D h F)(g:fU hq h0)(n:hq.n<=h0.n)(d: ∀c,c<hq.n->D c):fU hq h:=fun b a=>(s.data b (XI a n) (d b a)).trans (g b a)
theorem yZ{n:Int}(a:0<=n)(b:n<18446744073709551616):au .u64 n=n:=by obtain⟨m,rfl⟩:=Int.eq_ofNat_of_zero_le a;grind[au,hf,sgn,pw,Nat.blt,Nat.blt_eq]
theorem b_andU{x:Operand}(h:N<4294967296):bZ E .and t x y (.int .u64 (N:Int)) (.int .u64 4294967295)=some (.int .u64 (N:Int)):=by
 have a:Nat.blt N 18446744073709551616=true:=by rw [Nat.blt_eq];omega
 have b:Nat.land N 4294967295=N:=by have:=Nat.and_two_pow_sub_one_eq_mod N 32;simp_all
 have e3:=yZ (n:=(N:Int)) (by omega) (by omega);have e4:jf .and .u64 (.ofNat N) (.ofNat 4294967295)=some (au .u64 (.ofNat (Nat.land N 4294967295))):=by simp only [jf,pw];rw [a];rfl
 show(jf .and .u64 (.ofNat N) (.ofNat 4294967295)).map _=_;grind
theorem b_shrU{x:Operand}(h:N<4294967296):bZ E .shr t x y (.int .u64 (N:Int)) (.int kd 32)=some (.int .u64 0):=by
 have e:N/Nat.pow 2 (bif XT 32 (bitsOf .u64)then 32 else bitsOf .u64)=0:=by show N/4294967296=0;omega
 show(uD .shr .u64 (.ofNat N) (.ofNat 32)).map _=_;show some (Value.int .u64 (.ofNat (N/Nat.pow 2 (bif XT 32 (bitsOf .u64)then 32 else bitsOf .u64))))=_;rw [e];rfl
theorem jK(i:OZ h0){d:Type}{enc:d->List Value}(j: ∀x,(enc x).length=1){v:Value}{xs:List d}(k:az h0 1 enc v xs)(t:xs.length<1000000):Ret zM 81 [v] h0 fun r h'=>Gr h0 h'/\az h' 1 enc r xs/\ ∀c,av r c->h0.n<=c:=by
 have S:=Si i;rcases k with⟨rfl,rfl⟩|⟨b,o,s,c,rfl,l,m⟩
 . refine aa (n:=8) (rs:=[.tmp 2]) rfl Tryz.e81 rfl rfl rfl (lbt rfl) ?_;simp only [BZ,ab,seval];exact⟨S.gr,.inl ⟨rfl,rfl⟩,fun c a=>a.elim⟩
 . refine aa (n:=8) (rs:=[.tmp 2]) rfl Tryz.e81 rfl rfl rfl (lbt rfl) ?_;simp only [BZ,seval];refine ae (ce (by exact Tryz.t41.1) (by exact XO) (by decide) (by rfl)) S ?_;clear S;intro h u S f;simp only [LC,bJ,cq,ag,Xx,Xo,Xn,XC,seval]at S;simp only [BZ,seval];refine dQ (S.cloneSl (enc:=enc) (xs:=[]) Tryz.t41.1 XO (by decide) Tryz.t41.2.2.2.2.2 (.inr ⟨b,o,s,c,rfl,l,S.old m (fun h=>h)⟩) j (by decide) (by simp only [List.length_nil,Xo];omega) (S.row m0)) ?_;rintro h' v ⟨p,g,q,a⟩;simp only [BZ,ab,seval];refine⟨p.gr,by simpa using q,fun c h=>(a c h).elim (fun e=>by omega) (fun e=>Xk S.fr.n e)⟩
theorem bM(a:OZ h0)(c:aX h0 d p γ):aT zM 10 [p] h0 (.int .i64 γ.nodes):=by have S:=Si a;obtain⟨b,f,g,h,i,j,rfl,r,_⟩:=c.ex;have e:=r.load1 (o:=0) rfl;refine aa (n:=10) (rs:=[.tmp 2]) rfl Tryz.e10 rfl rfl rfl (lbt rfl) ?_;simp only [BZ,ab,e,seval];exact S.gr
theorem oneArc_ok(j:OZ h0){v:Value}{A:List Arc}(f:az h0 3 di v A)(k:i<A.length):Ret zM 220 [v,.int .i64 i] h0 fun r h'=>Gr h0 h'/\r=.tuple #[.agg ⟨di A[i]⟩,.bool true]:=by
 have S:=Si j;have l: ¬((i:Int)<0):=by omega
 have m: ¬((A.length:Int)<=(i:Int)):=by omega
 refine aa (n:=19) (rs:=[.cell 4 135,.tmp 5]) rfl Tryz.e220 rfl rfl rfl (lbt rfl) ?_;simp only [BZ];refine ae aA S ?_;clear S;intro h p S g;obtain⟨c,o,a,d⟩:=(f.gr S.gr).ix (kd:=.i64) jL k;simp only [BZ,f.lenq,l,m,a,d,seval];refine aE (S.store (i:=0) rfl ?_ ?_ rfl rfl ?_ ono) ?_
 . exact(by exact Tryz.t135.2.1)
 . exact(by intro x e;cases e)
 . exact lbt rfl
 clear S;rintro h ⟨S,q⟩;clear q;simp only [LC,ag,lay,Xq,Xr,seval]at S;simp only [BZ,ab,di];refine(bF (by decide) (by simp only [aC,an,seval];exact bD Tryz.t135.1 Tryz.t135.2.1 (S.lds (b:=p) (o:=0) (n:=3) m0 (lbt rfl)))).2 ?_;refine(eo (by decide)).2 (cg.2 ?_);exact⟨S.gr,rfl⟩
theorem z9(c:OZ h0){v:Value}{R:Nat->List Nat}(d:iN h0 m v N R)(a:i<N):Ret zM 206 [v,.int .i64 i] h0 fun r h'=>Gr h0 h'/\ ∃w,r=.tuple #[w,.bool true]/\az h' 1 bO w (R i):=by
 have S:=Si c;obtain⟨o,p,rfl,_,f,b,g⟩:=d;obtain⟨w,e,h,_⟩:=g i a;have j:=f.load1 e;have k: ¬((i:Int)<0):=by omega
 have l: ¬((N:Int)<=(i:Int)):=by omega
 refine aa (n:=19) (rs:=[.tmp 4,.tmp 5]) rfl Tryz.e206 rfl rfl rfl (lbt rfl) ?_;simp only [BZ,ab,k,l,a,j,seval];exact⟨S.gr,_,rfl,h⟩
theorem kC(d:OZ h0){f:Nat}(c:aX h0 f p γ)(j:i<γ.arcs.length):Ret zM 161 [p,.int .i64 i] h0 fun r h'=>Gr h0 h'/\r=.tuple #[.agg ⟨di γ.arcs[i]⟩,.bool true]:=by
 have S:=Si d;obtain⟨b,s,t,u,w,y,rfl,r,k,_⟩:=c.ex;have l:=r.load1 (o:=3) rfl;refine aa (n:=18) (rs:=[.cell 4 135,.tmp 5]) rfl Tryz.e161 rfl rfl rfl (lbt rfl) ?_;simp only [BZ];refine ae aA S ?_;clear S;intro h m S a;simp only [BZ,S.old l (fun h=>h),seval];refine step_ret (oneArc_ok S.ok (k.A.gr S.gr) j) ?_;rintro v h ⟨g,rfl⟩;replace S:=S.call g;clear g;simp only [BZ,di,seval];refine aE (S.store (i:=0) rfl ?_ ?_ rfl rfl ?_ ono) ?_
 . exact(by exact Tryz.t135.2.1)
 . exact(by intro x e;cases e)
 . exact lbt rfl
 clear S;rintro h ⟨S,q⟩;clear q;simp only [LC,ag,lay,Xq,Xr,seval]at S;simp only [BZ,ab,seval];refine(bF (by decide) (by simp only [aC,an,seval];exact bD Tryz.t135.1 Tryz.t135.2.1 (S.lds (b:=m) (o:=0) (n:=3) m0 (lbt rfl)))).2 ?_;refine(eo (by decide)).2 (cg.2 ?_);exact⟨S.gr,rfl⟩
theorem uR(d:OZ h0)(c:aX h0 e p γ)(f:γ.arcs.length<1000)(j:i<γ.nodes):Ret zM 129 [p,.int .i64 i] h0 fun r h'=>Gr h0 h'/\az h' 1 bO r (outs γ.arcs Arc.s γ.arcs.length i)/\ ∀c,av r c->h0.n<=c:=by have S:=Si d;obtain⟨b,s,t,u,x,y,rfl,r,z,k,A,_⟩:=c.ex;have l:=r.load1 (o:=4) rfl;refine aa (n:=20) (rs:=[.tmp 4]) rfl Tryz.e129 rfl rfl rfl (lbt rfl) ?_;simp only [BZ,l,seval];refine step_ret (z9 S.ok k j) ?_;rintro v h ⟨g,w,rfl,a⟩;replace S:=S.call g;clear g;simp only [BZ,seval];have m:=S.fr.n;have q:=kK γ.arcs Arc.s γ.arcs.length i;refine step_ret (jK S.ok dr a (by omega)) ?_;intro v h ⟨g,a,hc⟩;replace S:=S.call g;clear g;simp only [BZ,ab,seval];exact⟨S.gr,a,fun c h=>Xk m (hc c h)⟩
theorem xt(d:OZ h0)(c:aX h0 e p γ)(f:γ.arcs.length<1000)(j:i<γ.nodes):Ret zM 131 [p,.int .i64 i] h0 fun r h'=>Gr h0 h'/\az h' 1 bO r (outs γ.arcs Arc.t γ.arcs.length i)/\ ∀c,av r c->h0.n<=c:=by have S:=Si d;obtain⟨b,s,t,u,x,y,rfl,r,z,A,k,_⟩:=c.ex;have l:=r.load1 (o:=5) rfl;refine aa (n:=20) (rs:=[.tmp 4]) rfl Tryz.e131 rfl rfl rfl (lbt rfl) ?_;simp only [BZ,l,seval];refine step_ret (z9 S.ok k j) ?_;rintro v h ⟨g,w,rfl,a⟩;replace S:=S.call g;clear g;simp only [BZ,seval];have m:=S.fr.n;have q:=kK γ.arcs Arc.t γ.arcs.length i;refine step_ret (jK S.ok dr a (by omega)) ?_;intro v h ⟨g,a,hc⟩;replace S:=S.call g;clear g;simp only [BZ,ab,seval];exact⟨S.gr,a,fun c h=>Xk m (hc c h)⟩
theorem mul64_ok(b:OZ h0)(i:N<1000):aT zM 272 [.int .u64 1,.int .u64 N] h0 (.tuple #[.int .u64 0,.int .u64 N]):=by have S:=Si b;have c: ∀{t x y},bZ zM .and t x y (.int .u64 1) (.int .u64 4294967295)=some (.int .u64 1):=b_andU (N:=1) (by decide);have d: ∀{t x y},bZ zM .and t x y (.int .u64 0) (.int .u64 4294967295)=some (.int .u64 0):=b_andU (N:=0) (by decide);have e: ∀{t x y a},bZ zM .shr t x y (.int .u64 1) (.int a 32)=some (.int .u64 0):=b_shrU (N:=1) (by decide);have f: ∀{t x y a},bZ zM .shr t x y (.int .u64 0) (.int a 32)=some (.int .u64 0):=b_shrU (N:=0) (by decide);have g:au .u64 (N:Int)=(N:Int):=yZ (by omega) (by omega);have h:au .u64 0=0:=rfl;refine aa (n:=51) (rs:=[.tmp 4,.tmp 5]) rfl Tryz.e272 rfl rfl rfl (lbt rfl) ?_;simp only [BZ,ab,c,d,e,f,b_andU (N:=N) (by omega),b_shrU (N:=N) (by omega),Int.one_mul,Int.zero_mul,Int.mul_zero,Int.add_zero,g,h,seval];exact S.gr
theorem mul_ok(a:OZ h0)(b:N<1000):aT zM 247 [.int .u64 1,.int .u64 N] h0 (.tuple #[.int .u64 0,.int .u64 N]):=by have S:=Si a;refine aa (n:=30) (rs:=[.tmp 4,.tmp 5]) rfl Tryz.e247 rfl rfl rfl (lbt rfl) ?_;simp only [BZ,seval];refine am (mul64_ok S.ok b) ?_;intro h g;replace S:=S.call g;clear g;simp only [BZ,ab,seval];exact S.gr
theorem Ba{e:TypeId}(c:E.und t=some (.slice e))(d:E.sz e=some 1)(f:n<N):ik E t (.slice (some ⟨b,0,none⟩) N N) (some (.int kd (n:Int))) none none=some (.slice (some ⟨b,n,none⟩) (N-n) (N-n)):=by
 have a: ∀n:Nat,je (n:Int)=some n:=fun n=>rfl;have g:XS N n=false:=by
  cases h:XS N n with
  |false=>rfl|true=>have:=X7 h;omega
 simp only [ik,c,ie,hZ,a,Xi (Yl f),cond_true,d,Xj,cond_false,g,iq,Xn,Xo]
theorem AM{e:TypeId}(c:E.und t=some (.slice e))(d:E.sz e=some k)(f:n<=N):ik E t (.slice (some ⟨b,0,none⟩) N N) none (some (.int kd (n:Int))) none=some (.slice (some ⟨b,0,none⟩) n N):=by have a: ∀n:Nat,je (n:Int)=some n:=fun n=>rfl;simp only [ik,c,ie,hZ,a,Xi f,cond_true,d,Xj,cond_false,iq,Xx,Nat.add_zero,Nat.sub_zero];cases XS N 0<;>rfl
section
variable{M:Nat->Prop}{h0 h:Hp}{L:List (Nat×Ob)}{G:List GL}{E:Env}{t e:TypeId}
theorem St.copyO(S:St M h0 h L G){o len o2:Nat}{k c:Option Nat}{l:List Value}(f:L[i]? =some (b,.row cs 1))(n:E.und t=some (.slice e))(p:E.sz e=some 1)(s:0<dW m len)(g:h.load b2 o2 (dW m len*1)=some l)(d:o+l.length<=cs.length)(hf:l.all mO=true){ts:List TypeId}:
 ∃h' w,copyV E h (t::ts) (.slice (some ⟨b,o,k⟩) len cap) (.slice (some ⟨b2,o2,c⟩) m j)=some (h',w)/\w=.int .i64 (dW m len:Nat)/\St M h0 h' (L.set i (b,.row (lay cs o l) 1)) G:=by
 obtain⟨y,q,r⟩:=(S.row (Xd f)).store S.ok ono (o:=o) (vs:=l) d hf;have a:=load_len g;refine⟨h.put b y,_,?_,rfl,S.put f r⟩;simp only [copyV,n,p,g];cases l with
 |nil=>simp at a;omega|cons x u=>simp only [q];rfl
end
theorem lz(h:a<=b):dW a b=a:=by unfold dW;rw [Xi h];rfl
theorem vj(h:b<=a):dW a b=b:=by
 unfold dW;cases c:XT a b with
 |false=>rfl|true=>have:=lbt c;show a=b;omega
theorem vw{X Z:Value}(e:c<=k):lay (zO n X++zO k Z) n (zO c X)=zO (n+c) X++zO (k-c) Z:=by
 refine Xw fun j=>?_;rw [lu (by simp;omega),XP,Yb,Yb,XP,XP,Xs,Xs,Xs,Xs,Xs];by_cases a:j<n
 . rw [if_neg (by omega),if_pos a,if_pos a,if_pos (by omega),if_pos (by omega)]
 . by_cases b:j<n+c
   . rw [if_pos (by omega),if_pos (by omega),if_pos b,if_pos b]
   . rw [if_neg (by omega),if_neg a,if_neg b];by_cases d:j-n<k
     . rw [if_pos d,if_pos (by omega)]
     . rw [if_neg d,if_neg (by omega)]
theorem oW(z:Value): ∀n,bJ [z] n=zO n z
 |0=>rfl|n+1=>by simp [bJ,oW z n,List.replicate_succ]
def ClF(O:List Nat)(f:Int->Option Value):Prop:= ∀u:Nat,f (u:Int)=if u∈O then some (.int .i64 1)else none
section
variable{M:Nat->Prop}{h0 h h':Hp}{L L':List (Nat×Ob)}{G G':List GL}{Fh:List Nat}
theorem St.baseF(S:St M h0 h L G)(Fh:List Nat):St (fun c=>c∈keys L G\/c∈Fh) h h L G:=
 ⟨Mo.refl S.ok,fun p a=>⟨.inr (.inl (iQ a)),(S.own p a).2⟩,fun p a=>⟨(S.gown p a).1,fun b d=>.inr (.inl (fF a d))⟩,S.apart⟩
theorem St.rebaseF(S:St M h0 h L G)(e: ∀c∈Fh,h0.n<=c\/M c)(T:St (fun c=>c∈keys L G\/c∈Fh) h h' L' G'):St M h0 h' L' G':=by have f: ∀b,h.n<=b\/(b∈keys L G\/b∈Fh)->h0.n<=b\/M b:=fun b a=>a.elim (fun a=>.inl (Xk S.fr.n a)) (fun a=>a.elim S.key_own (e b));exact⟨S.fr.trans T.fr fun b a=>(a.elim S.key_own (e b)).symm,fun p d=>⟨f _ (T.own p d).1,(T.own p d).2⟩,fun p d=>⟨(T.gown p d).1,fun b a=>f b ((T.gown p d).2 b a)⟩,T.apart⟩
theorem St.callF(S:St M h0 h L G){o o':Ob}(l:L[i]? =some (b,o))(f:Mo (fun c=>c∈Fh\/c=b) h h')(m: ∀c∈Fh,(M c\/h0.n<=c)/\c∉keys L G)(r:Has h' b o'):St M h0 h' (L.set i (b,o')) G:=by
 have s:=S.own _ (Xd l);have g:(keys L G)[i]? =some b:=ou l;refine⟨S.fr.trans f (fun c k=>by grind),fun p a=>?_,fun p a=>⟨(S.gown p a).1.of_get fun c k=>?_,(S.gown p a).2⟩,?_⟩
 . rcases oD a with rfl|⟨j,n,a⟩
   . grind
   . have d:=S.own p (Xd a);refine⟨d.1,d.2.of_get (f.get _ (d.2.lt S.ok) fun e=>?_)⟩;rcases e with e|e
     . exact(m _ e).2 (iQ (Xd a))
     . apply n;have q:(keys L G)[j]? =some b:=(by rw [ou a];rw [e]);exact qr S.apart q g
 . refine f.get c ((S.gown p a).1.lt S.ok k) fun e=>?_;rcases e with e|e
   . exact(m _ e).2 (fF a k)
   . subst e;have d:=S.apart;unfold keys at d;rw [XK]at d;exact d.2.2 c (List.mem_map.2 ⟨_,Xd l,rfl⟩) c (List.mem_filterMap.2 ⟨p,a,k⟩) rfl
 . have:keys (L.set i (b,o')) G=keys L G:=(by unfold keys;congr 1;rw [Ym];refine Xw fun j=>?_;grind);rw [this];exact S.apart
theorem St.stepF(S:St M h0 h L G)(f:Mo (· ∈Fh) h h')(b: ∀c∈Fh,(M c\/h0.n<=c)/\c∉keys L G):St M h0 h' L G:=
 S.step f (fun c a=>(b c a).1) (fun c a d=>(b c d).2 a)
theorem St.permL(S:St M h0 h L G)(p:L'.Perm L):St M h0 h L' G:=
 ⟨S.fr,fun x a=>S.own x (p.mem_iff.1 a),S.gown,by
  have:(keys L' G).Perm (keys L G):=(p.map Xu).append_right _;exact this.nodup_iff.2 S.apart⟩
end
theorem St.mono{M M':Nat->Prop}{h0 h:Hp}{L:List (Nat×Ob)}{G:List GL}(S:St M h0 h L G)(c: ∀b,M b->M' b):St M' h0 h L G:=
 ⟨S.fr.mono c,fun p a=>⟨(S.own p a).1.imp (fun h=>h) (c _),(S.own p a).2⟩,fun p a=>⟨(S.gown p a).1,fun b d=>((S.gown p a).2 b d).imp (fun h=>h) (c _)⟩,S.apart⟩
theorem Dj.exm{B:List Arc}{D:Nat->Nat}{b ex':Arc->Prop}(d:Dj B s N O D K b)(h: ∀a∈B,b a->ex' a):Dj B s N O D K ex':=
 ⟨d.i1,d.i2,d.i2f,d.i3,fun a c e f=>d.i4 a c e (fun g=>f (h a c g)),d.i5,d.nd,d.lt⟩
def noteSl:Value->Option Tch
 | .map (some r)=>some (.blk r)| .slice (some a) _ _=>some (.blk a.block)|_=>none
theorem Bn{b:Bool}{x:Operand}{ts:Array TypeId}:cV ρ b (.call ⟨.builtin .append,#[x,y],ts⟩) h h'=noteSl (ρ x):=by simp only [cV,dS,j7,fZ,touch,cond_false];cases ρ x<;>first|rfl|(rename_i x;cases x<;>rfl)|(rename_i x _ _;cases x<;>rfl)
theorem pair_x{x:Option Tch}:js x none=true:=by
 cases x with
 |none=>rfl|some b=>cases b<;>rfl
theorem entry_nl:dg i []=none:=rfl
def labC(N:Nat)(L:Nat->Nat):List Value:=(XJ N).map fun v=>.int .i64 (L v:Nat)
def byI:List Nat->Int
 | []=> -1|a::_=>(a:Nat)
def byC(N:Nat)(P:Nat->List Nat):List Value:=(XJ N).map fun v=>.int .i64 (byI (P v))
def clC(N:Nat)(O:List Nat):List Value:=(XJ N).map fun v=>.bool (decide (v∈O))
theorem vu(h:v<N):(labC N L)[v]? =some (.int .i64 (L v:Nat)):=lK (F:=fun v=>Value.int .i64 ((L v:Nat):Int)) h
theorem byC_at{P:Nat->List Nat}(h:v<N):(byC N P)[v]? =some (.int .i64 (byI (P v))):=lK (F:=fun v=>Value.int .i64 (byI (P v))) h
theorem clC_at(h:v<N):(clC N O)[v]? =some (.bool (decide (v∈O))):=lK (F:=fun v=>Value.bool (decide (v∈O))) h
theorem By:(labC N L).length=N:=by simp [labC]
theorem byC_len{P:Nat->List Nat}:(byC N P).length=N:=by simp [byC]
theorem clC_len:(clC N O).length=N:=by simp [clC]
theorem labC_set{x:Nat}:(labC N L).set v (.int .i64 (x:Nat))=labC N (dZ L v x):=by have:=kX (N:=N) (k:=v) (F:=fun v=>Value.int .i64 ((L v:Nat):Int)) (F':=fun u=>Value.int .i64 ((dZ L v x u:Nat):Int)) (fun i _ a=>by simp [dZ,a]);unfold labC;rw [<-this];simp [dZ]
theorem byC_set{P:Nat->List Nat}{p:List Nat}:(byC N P).set v (.int .i64 (byI p))=byC N (m8 P v p):=by have:=kX (N:=N) (k:=v) (F:=fun v=>Value.int .i64 (byI (P v))) (F':=fun u=>Value.int .i64 (byI (m8 P v p u))) (fun i _ a=>by simp [m8,a]);unfold byC;rw [<-this];simp [m8]
theorem clC_set:(clC N O).set v (.bool true)=clC N (O++[v]):=by have:=kX (N:=N) (k:=v) (F:=fun v=>Value.bool (decide (v∈O))) (F':=fun u=>Value.bool (decide (u∈O++[v]))) (fun i _ a=>by simp [a]);unfold clC;rw [<-this];simp
def srL(br c d e N:Nat)(pn p a b vE:Value)(σ:SS):List (Nat×Ob):=
 [(br,.row [pn,p,.slice (some ⟨c,0,none⟩) N N,.slice (some ⟨d,0,none⟩) N N,.slice (some ⟨e,0,none⟩) N N,a,b,vE] 1),(c,.row (labC N σ.L) 1),(d,.row (byC N σ.P) 1),(e,.row (clC N σ.O) 1)]
def srG(vE:Value)(σ:SS):List GL:=[(vE,4,σ.ev.flatMap iU)]
def iJ(h:Hp)(B:List Nat)(br:Nat)(pn a b:Value)(N:Nat)(σ:SS):Prop:=
 ∃e f g p F d,B=keys (srL br e f g N pn (ptrTo p) a b d σ) (srG d σ)++F/\(∀q∈srL br e f g N pn (ptrTo p) a b d σ,Has h q.1 q.2)/\ig h (d,4,σ.ev.flatMap iU)/\(keys (srL br e f g N pn (ptrTo p) a b d σ) (srG d σ)).Nodup/\cG h F (ptrTo p) N σ.K/\ ∀c∈F,c∉keys (srL br e f g N pn (ptrTo p) a b d σ) (srG d σ)
theorem St.ofHas{L:List (Nat×Ob)}{G:List GL}(e:OZ h)(f: ∀q∈L,Has h q.1 q.2)(g: ∀p∈G,ig h p)(i:(keys L G).Nodup)(d: ∀c∈keys L G,M c):St M h h L G:=
 ⟨Mo.refl e,fun p a=>⟨.inr (d _ (iQ a)),f p a⟩,fun p a=>⟨g p a,fun b j=>.inr (d _ (fF a j))⟩,i⟩
theorem iJ.mo{M:Nat->Prop}{h h':Hp}{B:List Nat}{br N:Nat}{pn a c:Value}{σ:SS}(r:iJ h B br pn a c N σ)(g:Mo M h h')(e: ∀b∈B,¬M b):iJ h' B br pn a c N σ:=by obtain⟨k,l,m,p,F,f,rfl,n,i,o,s,t⟩:=r;refine⟨k,l,m,p,F,f,rfl,fun q j=>g.has (n q j) (e _ (Xe _ (iQ j))),i.of_get fun b d=>g.get b (i.lt g.ok0 d) (e b (Xe _ (fF (p:=(f,4,σ.ev.flatMap iU)) m0 d))),o,s.mo g (fun b d=>e b (Xl _ d)),t⟩
theorem iJ.gr{a b:Value}(r:iJ h B br pn a b N σ)(g:Gr h h'):iJ h' B br pn a b N σ:=r.mo (M:=NoM) g.fr (fun _ _ h=>h)
theorem iJ.lt{h:Hp}(e:OZ h){B:List Nat}{br N:Nat}{pn b d:Value}{σ:SS}(r:iJ h B br pn b d N σ): ∀c∈B,c<h.n:=by
 obtain⟨l,m,n,p,F,o,rfl,f,g,i,j,q⟩:=r;intro c a;rcases List.mem_append.1 a with a|a
 . exact(St.ofHas (M:=fun _=>True) e f (fun p k=>by cases k with|head=>exact g|tail _ h=>cases h) i (fun _ _=>trivial)).key_lt a
 . exact j.lt e c a
theorem Gr.mo'(g:Gr hq h)(f:Mo (· ∈B) h h')(hB: ∀c∈B,hq.n<=c):Gr hq h':=((g.fr (M:=NoM)).trans f (fun i a=>.inr (hB i a))).gr
def PiF(E:Env)(hq:Hp)(g:FuncId)(a N:Nat)(pi:Nat->Int):Prop:= ∀h,Gr hq h-> ∀v,v<N->aT E g [.int .i64 (v:Nat),ptrTo a] h (.int .i64 (pi v))
def AlF(E:Env)(hq:Hp)(g:FuncId)(b n:Nat)(al:Nat->Bool):Prop:= ∀h,Gr hq h-> ∀a,a<n->aT E g [.int .i64 (a:Nat),ptrTo b] h (.bool (al a))
theorem Af  (gq:Gr hq h0)  {w lab:Nat} {p:List Nat} {x:FuncId} {f:Value}   (R:iJ h0 B br pn f (.func (.func x) #[] #[ptrTo w]) N σ) (ac:PiF zM hq x w N pi) (hN:N<=12) (j:v<N) (hl:lab<=12*cH)
 (hp: -(FAR:Int)<=pi v) (hk: ∀k,σ.K v=some k->k=σ.L v+pi v):
 Ret zM 199 [ptrTo br,.int .i64 (v:Nat),.int .i64 (lab:Nat),.int .i64 (byI p)] h0 fun _ h'=>Mo (· ∈B) h0 h'/\ ∃C,iJ h' C br pn f (.func (.func x) #[] #[ptrTo w]) N (iM pi σ v lab p)/\ ∀c∈C,c∈B\/h0.n<=c:=by
 have ok:=gq.ok;have R0:=R;obtain⟨s,u,y,D,F,t,rfl,hL,hG,nd,H,X⟩:=R;have S:=St.ofHas (M:=fun c=>c∈keys (srL br s u y N pn (ptrTo D) f (.func (.func x) #[] #[ptrTo w]) t σ) (srG t σ)++F) ok hL (fun p hp=>by cases hp with|head=>exact hG|tail _ h=>cases h) nd (fun c a=>Xe _ a);have fr:=gX;have wm:=jT;have l:iM pi σ v lab p=σ-> ∀h,Gr h0 h->Mo (· ∈keys (srL br s u y N pn (ptrTo D) f (.func (.func x) #[] #[ptrTo w]) t σ) (srG t σ)++F) h0 h/\ ∃C,iJ h C br pn f (.func (.func x) #[] #[ptrTo w]) N (iM pi σ v lab p)/\ ∀c∈C,c∈keys (srL br s u y N pn (ptrTo D) f (.func (.func x) #[] #[ptrTo w]) t σ) (srG t σ)++F\/h0.n<=c:=
  fun e h g=>⟨g.fr,_,by rw [e];exact R0.gr g,fun c a=>.inl a⟩
 generalize E:keys (srL br s u y N pn (ptrTo D) f (.func (.func x) #[] #[ptrTo w]) t σ) (srG t σ)++F=Y at S l;have Q: ∀c∈F,c∈Y\/h0.n<=c:=fun c a=>.inl (by rw [<-E];exact Xl _ a);unfold srL srG at S;have lF:=H.lt ok;have ll:=fun {b} hb=>S.key_lt (b:=b) hb;refine aa (n:=86) (rs:=[]) rfl Tryz.e199 rfl rfl rfl (lbt rfl) ?_;simp only [BZ,S.ld (b:=br) (o:=6) m0 rfl,seval];refine am (ac _ gq v j) ?_;intro h g;replace S:=S.call g;replace H:=H.gr g;simp only [BZ,S.ld (b:=br) (o:=1) m0 rfl,seval];refine am (ye S.ok H) ?_;intro h' Z;replace S:=S.call Z;replace H:=H.gr Z;replace g:=g.trans Z;clear Z h;have n0:=g.n;have G:=(S.row (b:=y) m3).load1 (clC_at (O:=σ.O) j);have lL:=(S.row (b:=s) m1).load1 (vu (L:=σ.L) j);by_cases hO:v∈σ.O
 . have K:decide (v∈σ.O)=true:=decide_eq_true hO;simp only [BZ,j,G,K,S.ld (b:=br) (o:=4) m0 rfl,S.ld (b:=br) (o:=2) m0 rfl,seval];exact l (by unfold iM;rw [if_pos (.inl hO)]) _ g
 . have K:decide (v∈σ.O)=false:=decide_eq_false hO;by_cases U:(FAR:Int)<=pi v
   . have V:(72057594037927936:Int)<=pi v:=(by omega);simp only [BZ,j,G,K,V,S.ld (b:=br) (o:=4) m0 rfl,S.ld (b:=br) (o:=2) m0 rfl,seval];exact l (by unfold iM;rw [if_pos (.inr (.inl U))]) _ g
   . have V: ¬(72057594037927936:Int)<=pi v:=(by omega);have wl:au .i64 ((lab:Int)+pi v)=(lab:Int)+pi v:=(by rw [wrap64]<;>omega);have W: ¬((σ.K v).isSome=true/\σ.L v<=lab)-> ∀(h':Hp) (m:List Nat),St (· ∈Y) h0 h' [(br,.row [pn,ptrTo D,.slice (some ⟨s,0,none⟩) N N,.slice (some ⟨u,0,none⟩) N N,.slice (some ⟨y,0,none⟩) N N,f,.func (.func x) #[] #[ptrTo w],t] 1),(s,.row ((labC N σ.L).set v (.int .i64 (lab:Nat))) 1),(u,.row ((byC N σ.P).set v (.int .i64 (byI p))) 1),(y,.row (clC N σ.O) 1)] [(t,4,σ.ev.flatMap iU)]->
      cG h' m (ptrTo D) N (dq σ.K v (some ((lab:Int)+pi v)))->(∀c∈m,c∈F\/h0.n<=c)->Mo (· ∈Y) h0 h'/\ ∃C,iJ h' C br pn f (.func (.func x) #[] #[ptrTo w]) N (iM pi σ v lab p)/\ ∀c∈C,c∈Y\/h0.n<=c:=by
      intro a h' m T H' d;rw [labC_set,byC_set]at T;refine⟨T.fr,keys (srL br s u y N pn (ptrTo D) f (.func (.func x) #[] #[ptrTo w]) t σ) (srG t σ)++m,?_,fun c a=>?_⟩
      . unfold iM;rw [if_neg (by simp only [not_or];exact⟨hO,U,a⟩)];refine⟨s,u,y,D,m,t,rfl,fun q hq=>(T.own q hq).2,(T.gown _ m0).1,T.apart,H',fun c a hm=>?_⟩;rcases d c a with z|z
        . exact X c z hm
        . have:=ll (b:=c) hm;omega
      . rcases List.mem_append.1 a with a|a
        . exact .inl (by rw [<-E];exact Xe _ a)
        . rcases d c a with z|z
          . exact .inl (by rw [<-E];exact Xl _ z)
          . exact .inr z
     have A: ∀m:List Nat,(∀c∈m,c∈F\/h0.n<=c)-> ∀c∈m,¬(c=s)/\ ¬(c=u):=fun m h c a=>by
      rcases h c a with z|z
      . have:=X c z;simp [srL,keys]at this;exact⟨this.2.1,this.2.2.1⟩
      . have h2:=ll (b:=s) (by simp [keys]);have h3:=ll (b:=u) (by simp [keys]);exact⟨fun e=>by omega,fun e=>by omega⟩
     have ap:=S.apart;have n1:br≠s:=fun e=>(by subst e;simp [keys]at ap);have n2:br≠u:=fun e=>(by subst e;simp [keys]at ap);have n3:s≠u:=fun e=>(by subst e;simp [keys]at ap);clear ap;cases P:σ.K v with
     | none=>
       simp only [BZ,j,G,K,V,Xz,Xj,wl,S.ld (b:=br) (o:=4) m0 rfl,S.ld (b:=br) (o:=2) m0 rfl,S.ld (b:=br) (o:=1) m0 rfl,seval];refine step_ret (pN S.ok H j (by omega) P) ?_;rintro r h2 ⟨f2,m,H2,d⟩;replace S:=S.stepF f2 (fun c a=>⟨Q c a,X c a⟩);replace d: ∀c∈m,c∈F\/h0.n<=c:=fun c a=>(d c a).imp (fun h=>h) (fun h=>Xk n0 h);clear G lL;simp only [BZ];refine ar (aw rfl) (q:=0) (ps:=[]) (by kernel_rfl) ?_;simp only [BZ,cls,j,S.ld (b:=br) (o:=2) m0 rfl,S.ld (b:=br) (o:=3) m0 rfl,seval];refine cM (aF S (i:=1) rfl Tryz.t2.2.2.1 aU (by rw [By];exact j) ono) ?_;clear S;rintro h3 ⟨S,I⟩;simp only [LC]at S;simp only [BZ,cls,j,seval];refine cM (aF S (i:=2) rfl Tryz.t3.2.2.1 aU (by rw [byC_len];exact j) ono) ?_;clear S;rintro h4 ⟨S,J⟩;simp only [LC]at S;simp only [BZ,seval];exact W (by rw [P];simp) _ m S ((H2.mo I (fun c a=>(A m d c a).1)).mo J (fun c a=>(A m d c a).2)) d
     | some k=>
       have ek:=hk k P;by_cases hle:σ.L v<=lab
       . have c2:(σ.L v:Int)<=(lab:Int):=(by omega);simp only [BZ,j,G,K,lL,V,Xt,c2,S.ld (b:=br) (o:=4) m0 rfl,S.ld (b:=br) (o:=2) m0 rfl,seval];exact l (by unfold iM;rw [if_pos (.inr (.inr ⟨by rw [P];rfl,hle⟩))]) _ g
       . have c2: ¬(σ.L v:Int)<=(lab:Int):=(by omega);simp only [BZ,j,G,K,lL,V,Xt,c2,wl,S.ld (b:=br) (o:=4) m0 rfl,S.ld (b:=br) (o:=2) m0 rfl,S.ld (b:=br) (o:=1) m0 rfl,seval];refine step_ret (rE S.ok H (by omega) P (k:=(lab:Int)+pi v) (by omega)) ?_;rintro r h2 ⟨f2,H2⟩;replace S:=S.stepF f2 (fun c a=>⟨Q c a,X c a⟩);have d: ∀c∈F,c∈F\/h0.n<=c:=fun c a=>.inl a;clear G lL;simp only [BZ];refine ar (aw rfl) (q:=0) (ps:=[]) (by kernel_rfl) ?_;simp only [BZ,cls,j,S.ld (b:=br) (o:=2) m0 rfl,S.ld (b:=br) (o:=3) m0 rfl,seval];refine cM (aF S (i:=1) rfl Tryz.t2.2.2.1 aU (by rw [By];exact j) ono) ?_;clear S;rintro h3 ⟨S,I⟩;simp only [LC]at S;simp only [BZ,cls,j,seval];refine cM (aF S (i:=2) rfl Tryz.t3.2.2.1 aU (by rw [byC_len];exact j) ono) ?_;clear S;rintro h4 ⟨S,J⟩;simp only [LC]at S;simp only [BZ,seval];exact W (by rw [P];simp;omega) _ F S ((H2.mo I (fun c a=>(A F d c a).1)).mo J (fun c a=>(A F d c a).2)) d
theorem iJ.close{f g:Nat}{a b vE:Value}(S:St M h0 h (srL br e f g N pn (ptrTo d) a b vE σ) (srG vE σ))(H:cG h F (ptrTo d) N σ.K)(i: ∀c∈F,c∉keys (srL br e f g N pn (ptrTo d) a b vE σ) (srG vE σ)):
 iJ h (keys (srL br e f g N pn (ptrTo d) a b vE σ) (srG vE σ)++F) br pn a b N σ:=
 ⟨e,f,g,d,F,vE,rfl,fun q j=>(S.own q j).2,(S.gown _ m0).1,S.apart,H,i⟩
theorem iJ.open(i:OZ h){a b:Value}(r:iJ h B br pn a b N σ): ∃e f g d F vE,B=keys (srL br e f g N pn (ptrTo d) a b vE σ) (srG vE σ)++F/\St (· ∈B) h h (srL br e f g N pn (ptrTo d) a b vE σ) (srG vE σ)/\cG h F (ptrTo d) N σ.K/\ ∀c∈F,c∉keys (srL br e f g N pn (ptrTo d) a b vE σ) (srG vE σ):=by obtain⟨e,f,g,d,F,vE,rfl,j,k,l,m,n⟩:=r;exact⟨e,f,g,d,F,vE,rfl,St.ofHas i j (fun p o=>by cases o with|head=>exact k|tail _ h=>cases h) l (fun c q=>Xe _ q),m,n⟩
theorem xF(pi:Nat->Int)(σ:SS)(v lab:Nat)(p:List Nat):(iM pi σ v lab p).ev=σ.ev:=by unfold iM;split<;>rfl
theorem BF(A:List Arc)(al:Nat->Bool)(pi:Nat->Int)(v:Nat)(σ:SS)(a:Nat):(scan1 A al pi v σ a).ev.length<=σ.ev.length+1:=by
 unfold scan1
 split
 . rw [xF];simp [evS]
 . omega
theorem sscan_ok  (bd:OZ hq) (gq:Gr hq h0)  (u:Good γ) {nb C:Nat} (hn:aX hq nb (ptrTo C) γ)  {t:Nat} {I J:FuncId}  {al:Nat->Bool}  (R:iJ h0 B br (ptrTo C) (.func (.func I) #[] #[ptrTo t]) (.func (.func J) #[] #[ptrTo t]) γ.nodes σ) (hB: ∀c∈B,hq.n<=c) (ax:AlF zM hq I t γ.arcs.length al) (ay:PiF zM hq J t γ.nodes pi) (hp: ∀v,v<γ.nodes-> -(FAR:Int)<=pi v)
 (hv:v<γ.nodes) (sv:Sv γ.arcs γ.nodes s al pi σ) (rm:Room σ v) (he:σ.ev.length<=10000):
 Ret zM 202 [ptrTo br,.int .i64 (v:Nat)] h0 fun _ h'=>Mo (· ∈B) h0 h'/\ ∃y,iJ h' y br (ptrTo C) (.func (.func I) #[] #[ptrTo t]) (.func (.func J) #[] #[ptrTo t]) γ.nodes (tC γ.arcs al pi v σ)/\ ∀c∈y,c∈B\/h0.n<=c:=by
 have ok:=gq.ok;have n1:=u.n1;have n2:=u.n2;have wm:=jT;have hA: ∀a∈γ.arcs,a.t<γ.nodes/\a.w<=cH:=fun a D=>⟨(u.arcs a D).2.1,(u.arcs a D).2.2⟩;have l0:h0.load br 0 1=some [ptrTo C]:=by obtain⟨Q,U,V,W,F,vE,rfl,A,_⟩:=R;exact Row.load1 (show Row h0 br _ 1 from A _ m0) (o:=0) rfl
 have S:=Si ok;refine aa (n:=62) (rs:=[]) rfl Tryz.e202 rfl rfl rfl (lbt rfl) ?_;simp only [BZ,l0,seval];refine step_ret (uR S.ok (hn.gr gq) (by have:=u.many;omega) hv) ?_;rintro vl A ⟨g,sl,d⟩;have lB:=R.lt ok;have R1:=R.gr g;have aL:=g.ok;have ol:=kK γ.arcs Arc.s γ.arcs.length v;have a7:=u.many;have be:=g.n;simp only [BZ,sl.lenq,seval];refine bj (fun(i:Nat) T h=>i<=(outs γ.arcs Arc.s γ.arcs.length v).length/\ ∃y,Mo (· ∈B) A h/\iJ h y br (ptrTo C) (.func (.func I) #[] #[ptrTo t]) (.func (.func J) #[] #[ptrTo t]) γ.nodes (((outs γ.arcs Arc.s γ.arcs.length v).take i).foldl (scan1 γ.arcs al pi v) σ)/\(∀c∈y,c∈B\/A.n<=c)/\
  T 0=ptrTo br/\T 1=.int .i64 (v:Nat)/\T 13=vl/\T 14=.int .i64 ((outs γ.arcs Arc.s γ.arcs.length v).length:Nat)/\T 15=.int .i64 i) (fun i=>(outs γ.arcs Arc.s γ.arcs.length v).length-i) ?_ 0 _ _ ?_
 . clear S l0;intro i ih T hS ⟨hi,y,f,R',hB',r0,r1,r13,r14,r15⟩;by_cases hlt:i<(outs γ.arcs Arc.s γ.arcs.length v).length
   . have a0: ∀c∈y,hq.n<=c:=fun c d=>(hB' c d).elim (hB c) (fun h=>by have:=gq.n;omega);have gh:Gr hq hS:=(gq.trans g).mo' f hB;have a1:=sl.mo f (fun b hb K=>by have:=d b hb;have:=lB b K;omega);obtain⟨c,o,X,Y⟩:=a1.ix (kd:=.i64) dr hlt;have K:=mL.1 (XA hlt);have w:au .i64 ((i:Int)+1)=((i+1:Nat):Int):=(by rw [wrap64]<;>omega);have a2: ∀a∈(outs γ.arcs Arc.s γ.arcs.length v).take i,a<γ.arcs.length/\(γ.arcs.getD a default).s=v:=fun a D=>mL.1 (Ya D);obtain⟨O,ki⟩:=Sv.scanL hA _ sv rm a2;have Z:=rm.keeps ki;have a3:(((outs γ.arcs Arc.s γ.arcs.length v).take i).foldl (scan1 γ.arcs al pi v) σ).ev.length<=10000+i:=by
      have: ∀(l:List Nat) (σ:SS),(l.foldl (scan1 γ.arcs al pi v) σ).ev.length<=σ.ev.length+l.length:=by
       intro l
       induction l with
       |nil=>intro σ;simp|cons a l ih=>intro σ;have A:=ih (scan1 γ.arcs al pi v σ a);have h2:=BF γ.arcs al pi v σ a;simp only [List.foldl_cons,List.length_cons];omega
      have A:=this ((outs γ.arcs Arc.s γ.arcs.length v).take i) σ;rw [Xy]at A;omega
     have tk:(outs γ.arcs Arc.s γ.arcs.length v).take (i+1)=(outs γ.arcs Arc.s γ.arcs.length v).take i++[(outs γ.arcs Arc.s γ.arcs.length v)[i]]:=(by rw [List.take_add_one,Xb hlt];rfl);have E:((outs γ.arcs Arc.s γ.arcs.length v).take (i+1)).foldl (scan1 γ.arcs al pi v) σ=scan1 γ.arcs al pi v (((outs γ.arcs Arc.s γ.arcs.length v).take i).foldl (scan1 γ.arcs al pi v) σ) (outs γ.arcs Arc.s γ.arcs.length v)[i]:=(by rw [tk,List.foldl_append];rfl);generalize(((outs γ.arcs Arc.s γ.arcs.length v).take i).foldl (scan1 γ.arcs al pi v) σ)=r at R' O ki Z a3 E;generalize(outs γ.arcs Arc.s γ.arcs.length v)[i]=a at K Y E;obtain⟨D,bf⟩:=K;obtain⟨Q,U,V,W,F,vE,P,S,H,hF⟩:=R'.open f.ok;have bh:=R'.lt f.ok;have G: ∀c∈keys (srL br Q U V γ.nodes (ptrTo C) (ptrTo W) (.func (.func I) #[] #[ptrTo t]) (.func (.func J) #[] #[ptrTo t]) vE r) (srG vE r),c∈y:=fun c d=>(by rw [P];exact Xe _ d);have a4: ∀c∈F,c∈y:=fun c d=>(by rw [P];exact Xl _ d);have lF:=H.lt f.ok;replace S:=S.base;generalize bi:keys (srL br Q U V γ.nodes (ptrTo C) (ptrTo W) (.func (.func I) #[] #[ptrTo t]) (.func (.func J) #[] #[ptrTo t]) vE r) (srG vE r)=KK at S G hF P;unfold srL srG at S;simp only [BZ,r0,r13,r14,r15,aG,hlt,X,Y,bO,S.ld (b:=br) (o:=5) m0 rfl,seval];refine am (ax _ gh a D) ?_;intro h' g';replace S:=S.call g';have bm:=g'.n;cases N:al a with
     | false=>
       simp only [BZ,r15,w,seval];refine ih (i+1) _ _ (by omega) ⟨by omega,y,f.trans (M':=NoM) g'.fr (fun _ h=>h.elim),?_,hB',by simp [aD,r0,an,r1,r13,r14]⟩;rw [E];unfold scan1;rw [N,if_neg Bool.false_ne_true];exact R'.gr g'
     | true=>
       have bn:Fl vE:=(S.gown _ m0).1.fl;simp only [BZ,r0,S.ld (b:=br) (o:=7) m0 rfl,seval];refine ae (ce (by exact Tryz.t44.1) (by exact Tryz.e143E) (by decide) (by rfl)) S ?_;clear S;intro h bs S a8;simp only [LC,bJ,cq,ag,Xx,Xo,Xn,XC,seval]at S;simp only [BZ,seval];have ac:aR h 4 (.slice (some ⟨bs,0,none⟩) 1 1)=some (1,iU ⟨1,a,0⟩):=(by simp only [aR];rw [S.lds (b:=bs) (o:=0) (n:=1*4) m0 (lbt rfl)];rfl);replace S:=S.drop1;refine dQ (S.grow (j:=0) (m:=1) (new:=iU ⟨1,a,0⟩) rfl Tryz.t44.1 Tryz.e143E (by decide) Tryz.t44.2.2.2.2.2 ac rfl (by decide) rfl (by rw [cC rx];show(_+4)*_<=_;omega)) ?_;clear S ac;rintro h2 z S;simp only [LC]at S;have ad:Fl z:=(S.gown _ m0).1.fl;simp only [BZ,seval];refine aE (aF S (i:=0) rfl Tryz.t44.2.2.1 ad (Xg (lbt rfl)) ono) ?_;clear S;rintro h3 ⟨S,_⟩;simp only [LC]at S;have eE:(r.ev++[(⟨1,a,0⟩:Ev)]).flatMap iU=r.ev.flatMap iU++iU ⟨1,a,0⟩:=(by rw [Ye];simp);rw [<-eE]at S;simp only [BZ,r0,S.ld (b:=br) (o:=0) m0 rfl,seval];have af: ∀c∈KK,hq.n<=c:=fun c d=>a0 c (G c d);refine step_ret (kC S.ok (hn.gr (gh.mo' S.fr af)) D) ?_;rintro rv h4 ⟨g4,rfl⟩;replace S:=S.call g4;clear g4;have ga:γ.arcs[a]=γ.arcs.getD a default:=(by simp [Xa,D]);have ai:=hA (γ.arcs.getD a default) (by rw [<-ga];exact XA D);have lv:=Z.2.1;have bo:r.O.length*cH<=12*cH:=Nat.mul_le_mul_right _ (Xk O.len n2);rw [ga];simp only [BZ,di,seval];refine ae aA S ?_;clear S;intro h b6 S bc;simp only [BZ,seval];refine aE (S.store (i:=0) rfl ?_ ?_ rfl rfl ?_ ono) ?_
       . exact(by exact Tryz.t135.2.1)
       . exact(by intro x e;cases e)
       . exact lbt rfl
       clear S;rintro h ⟨S,mo⟩;clear mo;simp only [LC,ag,lay,Xq,Xr,seval]at S;simp only [BZ,seval];have lL:=(S.row (b:=Q) m2).load1 (vu (L:=r.L) hv);have wn:au .i64 ((r.L v:Int)+((γ.arcs.getD a default).w:Int))=((r.L v+(γ.arcs.getD a default).w:Nat):Int):=(by rw [wrap64]<;>omega);refine ar (aw rfl) (q:=0) (ps:=[]) (by kernel_rfl) ?_;simp only [BZ,cls,r0,r1,wn,hv,lL,S.ld (b:=br) (o:=2) m1 rfl,S.ld (b:=b6) (o:=1) m0 rfl,S.ld (b:=b6) (o:=2) m0 rfl,seval];have kn:=fun c d=>(S.key_own (b:=c) d).symm;have kf:=S.fr;have gx:=gh.mo' S.fr af;have a5: ∀c∈F,c∉keys (srL br Q U V γ.nodes (ptrTo C) (ptrTo W) (.func (.func I) #[] #[ptrTo t]) (.func (.func J) #[] #[ptrTo t]) z (evS r ⟨1,a,0⟩)) (srG z (evS r ⟨1,a,0⟩)):=fun c d K=>by
        rcases kn c (Yc _ K)with A|A
        . exact hF c d A
        . have:=lF c d;omega
       have R2:=iJ.close (σ:=evS r ⟨1,a,0⟩) (vE:=z) S.drop1 (H.mo kf (fun c d K=>hF c d K)) a5;have ak: ∀c∈keys (srL br Q U V γ.nodes (ptrTo C) (ptrTo W) (.func (.func I) #[] #[ptrTo t]) (.func (.func J) #[] #[ptrTo t]) z (evS r ⟨1,a,0⟩)) (srG z (evS r ⟨1,a,0⟩))++F,c∈y\/hS.n<=c:=fun c d=>by
        rcases List.mem_append.1 d with d|d
        . exact(kn c (Yc _ d)).imp (G c) (fun h=>h)
        . exact .inl (a4 c d)
       refine bQ (Af (p:=a::r.P v) (lab:=r.L v+(γ.arcs.getD a default).w) gx R2 ay n2 ai.1 (by omega) (hp _ ai.1) (fun k hk=>(O.op _ k hk).2.2.2)) ?_;rintro rv h5 ⟨f5,B3,R3,a6⟩;simp only [BZ,r15,w,seval];have nh:=f.n;have nx:=kf.n;have gB: ∀c,c∈y\/hS.n<=c->c∈B\/A.n<=c:=fun c d=>d.elim (hB' c) (fun h=>.inr (by omega));refine ih (i+1) _ _ (by omega) ⟨by omega,B3,(f.trans kf (fun c d=>gB c (.inl (G c d)))).trans f5 (fun c d=>gB c (ak c d)),?_,fun c d=>gB c ((a6 c d).elim (ak c) (fun h=>.inr (by omega))),by simp [aD,r0,an,r1,r13,r14]⟩;rw [E];unfold scan1;rw [N,if_pos rfl];exact R3
   . have ei:i=(outs γ.arcs Arc.s γ.arcs.length v).length:=(by omega);simp only [BZ,r14,r15,aG,hlt,seval];refine⟨(g.fr (M:=(· ∈B))).trans f (fun c d=>.inl d),y,?_,fun c d=>(hB' c d).imp (fun h=>h) (fun h=>by omega)⟩;rw [ei,List.take_length]at R';exact R'
 . exact⟨XM _,B,Mo.refl aL,R1,fun c d=>.inl d,by simp [aD,cK,an,dw]⟩
def ww(E:Env)(g:FuncId)(post:List Value)(h0:Hp)(D W:Nat->Prop)(xs:List (List Value)):Prop:=
 ∀a J Z,(∀v h,¬Z (.pan v) h)->Yld E a J Z xs->(∀i h F c,J i h F->Mo W h c->J i c F)-> ∀h F,ItS h0 D h F->(∀b,W b->h.get b=h0.get b)->(∀b∈F,¬W b)->J 0 h F->eJ E g ([]++[.func (.yield a) #[] #[]]++post) none h (YQ J Z xs.length)
theorem iter_w{post:List Value}{xs:List (List Value)}(H:nG E g [] post h0 D xs):ww E g post h0 D NoM xs:=fun a J Z b Y _ h F s _ _ c=>H a J Z b Y h F s c
theorem oZ(l:List Nat):(l.flatMap bO).length=l.length:=by rw [cC dr];omega
theorem mG{p:GL}(g:ig h p)(a:av p.1 c):eH p=some c:=by
 rcases g with⟨e,_⟩|⟨b,n,e,_⟩
 . rw [e]at a;exact a.elim
 . obtain⟨v,k,d⟩:=p;simp only []at e a;subst e;exact congrArg some a
theorem AY(Y:OZ h0){post:Array Value}{W:Nat->Prop}(Z:ww zM g post.toList h0 D W (xs.map fun(x:Nat)=>[.int .i64 x]))(I: ∀b,W b->b<h0.n)(hn:xs.length<100000):
 Ret zM 155 [.slice none 0 0,.func (.func g) #[] post] h0 fun r h'=>Mo W h0 h'/\ig h' (r,1,xs.flatMap bO)/\ ∀c,av r c->h0.n<=c:=by
 have S:=Si Y;refine aa (n:=13) (rs:=[.tmp 4]) rfl Tryz.e155 rfl rfl rfl (lbt rfl) ?_;simp only [BZ,seval];refine ae (bN (by exact aW)) S ?_;clear S;intro h l S t;simp only [BZ,if_false,seval];replace S:=S.nilG (k:=1);have J:=S.gr;replace S:=S.monoM (M:=W);have C:=S.fr;refine iD S (g:=g) (a:=#[]) (b:=post) (by simp [bG,aD,cK,dw]) rfl rfl ?_;intro E u s p ac ad K;obtain⟨X,N,p⟩: ∃X:gu,X=_/\St W h0 E [(s,.loop X),(u,.dfr),(l,.row [.slice none 0 0] 1)] [(.slice none 0 0,1,[])]:=⟨_,rfl,p⟩;have O: ∀c,h0.n<=c-> ¬W c:=fun c h G=>by have:=I c G;omega
 have hJ:Yld zM s (fun k h' F=> ∃(e:Value),St W h0 h' [(s,.loop X),(u,.dfr),(l,.row [e] 1)] [(e,1,(xs.take k).flatMap bO)]/\k<=xs.length/\(∀c∈F,h0.n<=c)/\F=keys [(s,.loop X),(u,.dfr),(l,.row [e] 1)] [(e,1,(xs.take k).flatMap bO)]) (fun _ _=>False) (xs.map fun(x:Nat)=>[.int .i64 x]):=by
  refine⟨?_,?_,fun _ _ h=>h.elim,?_⟩
  . rintro i h F ⟨e,S,_,_,rfl⟩;exact⟨S.ok,fun b f=>S.key_lt f⟩
  . rintro i h F h' ⟨e,S,a,b,rfl⟩ B;exact⟨e,S.call B,a,b,rfl⟩
  . rintro i x hR F v ⟨e,S,a,b,rfl⟩;have w:i<xs.length:=(by have:=(List.getElem?_eq_some_iff.1 v).1;simpa using this);rw [Xp,Xb w]at v;cases v;have tk:(xs.take (i+1)).flatMap bO=(xs.take i).flatMap bO++[.int .i64 (xs[i]:Nat)]:=(by rw [List.take_add_one,Xb w,Ye];rfl);have tl:(xs.take i).length<=i:=(by rw [Xy];omega);subst N;refine iB (S.get m0) (by rw [Tryz.e155];rfl) rfl ?_;have P:=S;replace S:=S.base;simp only [BZ,seval];refine ib S (i:=0) rfl rfl rfl rfl rfl ?_;clear S;intro h S;simp only [LC]at S;simp only [BZ,S.ld (b:=l) (o:=0) m2 rfl,seval];refine ae (ce (by exact Tryz.t41.1) (by exact XO) (by decide) (by rfl)) S ?_;clear S;intro h Q S R;simp only [LC,bJ,cq,ag,Xx,Xo,Xn,XC,seval]at S;simp only [BZ,seval];have z:aR h 1 (.slice (some ⟨Q,0,none⟩) 1 1)=some (1,[.int .i64 (xs[i]:Nat)]):=(by simp only [aR];rw [S.lds (b:=Q) (o:=0) (n:=1*1) m0 (lbt rfl)];rfl);replace S:=S.drop1;refine dQ (S.grow (j:=0) (m:=1) (new:=[.int .i64 (xs[i]:Nat)]) rfl Tryz.t41.1 XO (by decide) Tryz.t41.2.2.2.2.2 z rfl (by decide) rfl (by rw [oZ];simp;omega)) ?_;clear S z;rintro h A S;simp only [LC]at S;have fv:Fl A:=(S.gown _ m0).1.fl;simp only [BZ,seval];refine aE (aF S (i:=2) rfl Tryz.t41.2.2.1 fv (Xg (lbt rfl)) ono) ?_;clear S;rintro h ⟨S,_⟩;simp only [LC]at S;simp only [BZ];refine d6 S (i:=0) rfl ?_;clear S;intro h S;simp only [LC]at S;rw [<-tk]at S;have H:=P.rebase S;refine .inl ⟨rfl,_,⟨A,H,by omega,fun c d=>?_,rfl⟩,S.fr,fun c d=>(S.key_own d).symm⟩;rcases S.key_own d with U|U
    . have:=P.fr.n;omega
    . exact b c U
 have q: ∀c∈keys [(s,Ob.loop X),(u,.dfr),(l,.row [.slice none 0 0] 1)] [(.slice none 0 0,1,[])],h0.n<=c:=fun c d=>by have n2:=t;have:=C.n;simp [keys,eH]at d;omega
 refine cR (Z s _ _ (fun _ _ h=>h) hJ ?_ E _ ?_ ?_ (fun c d=>O c (q c d)) ⟨_,p,XM _,q,rfl⟩) fun o rc h' y=>jt y ?_
 . rintro i h F h' ⟨e,S,a,b,rfl⟩ B;exact⟨e,S.step B (fun c d=>.inl d) (fun c d G=>O c (b c d) G),a,b,rfl⟩
 . have B:Mo W h0 E:=p.fr;exact⟨p.ok,p.fr.n,fun b f _=>(J.trans K).get b f,fun b f h=>by have:=q b f;omega,fun b f=>p.key_lt f⟩
 . exact fun b f=>(J.trans K).get b (I b f)
 . rintro F ⟨e,T,a,b,rfl⟩;rw [X6,List.take_length]at T b;subst N;refine⟨_,T.get m0,Nat.zero_ne_one,?_⟩;replace T:=T.dead;have S:=T;show Run _ _ _ _ _ _ _ _;simp only [BZ,S.ld (b:=l) (o:=0) m1 rfl,seval];refine dz (ir [u] _ (L:=[(l,_)]) T.base fun h3 V=>⟨rfl,_,rfl,?_⟩);refine⟨(T.fr.trans V.fr (fun c d=>(T.key_own d).symm):Mo W h0 h3),(V.gown _ m0).1,fun x v=>?_⟩;refine b x ?_;have:eH (e,1,xs.flatMap bO)=some x:=mG (T.gown _ m0).1 v;exact fF m0 this
theorem wU(a:OZ h0){post:Array Value}{W:Nat->Prop}(d:ww zM g post.toList h0 D W (xs.map fun(x:Nat)=>[.int .i64 x]))(e: ∀b,W b->b<h0.n)(i:xs.length<100000):
 Ret zM 64 [.func (.func g) #[] post] h0 fun r h'=>Mo W h0 h'/\ig h' (r,1,xs.flatMap bO)/\ ∀c,av r c->h0.n<=c:=by
 have S:=Si a;refine aa (n:=5) (rs:=[.tmp 2]) rfl Tryz.e64 rfl rfl rfl (lbt rfl) ?_;simp only [BZ,seval];refine step_ret (AY S.ok d e i) ?_;rintro r h ⟨f,q⟩;simp only [BZ,ab,seval];exact⟨f,q⟩
theorem sback_ok(c:OZ h0):Ret zM 201 [ptrTo br,.int .i64 v] h0 fun r h'=>Gr h0 h'/\ ∃b1 b2,r=.func (.func 252) #[] #[ptrTo b1,ptrTo b2]/\h0.n<=b1/\h0.n<=b2/\b1≠b2/\h'.load b1 0 1=some [ptrTo br]/\Row h' b2 [.int .i64 v] 1:=by have S:=Si c;refine aa (n:=6) (rs:=[.tmp 4]) rfl Tryz.e201 rfl rfl rfl (lbt rfl) ?_;simp only [BZ,seval];refine ae (bN (by exact bH)) S ?_;clear S;intro h b1 S a;simp only [BZ,if_false,seval];refine ae (bN (by exact aU)) S ?_;clear S;intro h b2 S b;simp only [BZ,ab,seval];have d:=S.apart;exact⟨S.gr,b1,b2,rfl,a,b,fun e=>(by subst e;simp [keys]at d),S.ld m1 rfl,S.row m0⟩
theorem back_it(T:OZ hq)(U:Gr hq h0)(ax:Good γ){nb w:Nat}(hn:aX hq nb (ptrTo w) γ){l m:Value}{al:Nat->Bool}(R:iJ h0 B br (ptrTo w) l m γ.nodes σ)(sv:Sv γ.arcs γ.nodes s al pi σ){g:Nat}(hu:g∈σ.O)
 (e1:h0.load b1 0 1=some [ptrTo br]) (e2:Row h0 b2 [.int .i64 g] 1) (d1:b2∉B) (d2:b1≠b2) (d3:hq.n<=b2):
 ww zM 252 [ptrTo b1,ptrTo b2] h0 (fun c=>c=b1\/c∈B\/c<hq.n) (· =b2) ((σ.P g).map fun(a:Nat)=>[.int .i64 a]):=by
 intro lb J Z hz Y hW h F p r z A;have f:=U.ok;obtain⟨V,C,W,X,F',y,rfl,hL,_⟩:=R;have rr:Row h0 br _ 1:=hL _ m0;have rb:Row h0 C (byC γ.nodes σ.P) 1:=hL _ m2;have D:br∈keys (srL br V C W γ.nodes (ptrTo w) (ptrTo X) l m y σ) (srG y σ)++F':=Xe _ (by simp [srL,keys]);have M:C∈keys (srL br V C W γ.nodes (ptrTo w) (ptrTo X) l m y σ) (srG y σ)++F':=Xe _ (by simp [srL,keys]);generalize keys (srL br V C W γ.nodes (ptrTo w) (ptrTo X) l m y σ) (srG y σ)++F'=B at d1 D M p;have l0:=rr.load1 (o:=0) rfl;have l3:=rr.load1 (o:=3) rfl;have d:Row h b2 [.int .i64 g] 1:=Row.of_get (r b2 rfl) e2;have q2:=d.load1 (o:=0) rfl;have N:=sv.lt g hu;have E:=p.load f e1 (.inl rfl);have O:=p.load f l3 (.inr (.inl D));have Q:=p.load f (rb.load1 (byC_at (P:=σ.P) N)) (.inr (.inl M));refine enter (n:=39) (rs:=[]) rfl Tryz.e252 rfl rfl rfl (lbt rfl) ?_;simp only [BZ];refine ar (aw rfl) (q:=0) (ps:=[]) (by kernel_rfl) ?_;simp only [BZ,cls,E,q2,O,Q,N,seval];refine bj (fun(j:Nat) G h=>j<=(σ.P g).length/\ ∃u F,u∈σ.O/\σ.P u=(σ.P g).drop j/\ItS h0 (fun c=>c=b1\/c∈B\/c<hq.n) h F/\b2∉F/\J j h F/\Row h b2 [.int .i64 (u:Nat)] 1/\G 0=.func (.yield lb) #[] #[]/\G 1=ptrTo b1/\G 2=ptrTo b2/\G 4=.int .i64 (byI (σ.P u))) (fun j=>(σ.P g).length-j) ?_ 0 _ _ ?_
 . clear E q2 O Q N d A z r p F h;intro j ih G hS ⟨hj',u,F,hu',hP,p,z,A,d,r0,r1,r2,r4⟩;have N:=sv.lt u hu';rcases sv.path u (.inl hu')with⟨_,e,_⟩|⟨a,ha,ay,ht,hs,e,_⟩
   . have ej:j=(σ.P g).length:=(by rw [e]at hP;have:=congrArg List.length hP;rw [List.length_drop]at this;simp at this;omega);rw [e]at r4;simp only [byI]at r4;simp only [BZ,r4,seval];exact cE (cu ⟨rfl,_,rfl,rfl,.inl ⟨_,F,rfl,by rw [X6,<-ej];exact A⟩⟩)
   . have hlt:j<(σ.P g).length:=(by rw [e]at hP;have:=congrArg List.length hP;rw [List.length_drop]at this;simp at this;omega);have H:(σ.P g)[j]=a/\(σ.P g).drop (j+1)=σ.P (γ.arcs.getD a default).s:=(by rw [e,XY hlt]at hP;injection hP with h1 h2;exact⟨h1.symm,h2.symm⟩);have hx:((σ.P g).map fun(a:Nat)=>[Value.int .i64 a])[j]? =some [.int .i64 (a:Nat)]:=(by rw [Xp,Xb hlt,H.1];rfl);rw [e]at r4;simp only [byI]at r4;have c0:(0:Int)<=(a:Int):=(by omega);have ai:=d.lt p.ok;simp only [BZ,r0,r4,c0,seval];refine du Y p A (i:=j) hx ?_ ?_ ?_
     . intro I F2 ac k f2 ad;have t:Row I b2 [.int .i64 (u:Nat)] 1:=f2.has (o:=.row _ 1) d z;have af:b2∉F2:=fun hm=>(ad b2 hm).elim z (fun h=>by omega);have S:=St.init1 k.ok (o:=.row _ 1) t;have E:=k.load f e1 (.inl rfl);have q0:=k.load f l0 (.inr (.inl D));have O:=k.load f l3 (.inr (.inl D));have sN:=sv.lt _ hs;have Q:=k.load f (rb.load1 (byC_at (P:=σ.P) sN)) (.inr (.inl M));have nt:aX I nb (ptrTo w) γ:=hn.keep T (k.keep (Gr.keep U) U.n (fun c hc=>.inr (.inr hc)));simp only [BZ,r1,r4,E,q0,seval];refine step_ret (kC S.ok nt ha) ?_;rintro rv h4 ⟨g4,rfl⟩;replace S:=S.call g4;clear g4;have ga:γ.arcs[a]=γ.arcs.getD a default:=(by simp [Xa,ha]);rw [ga];have K: ∀{c},c=b1\/c∈B-> ¬c=b2:=fun hc e=>(by subst e;exact hc.elim (fun h=>d2 h.symm) d1);simp only [BZ,di,seval];refine ae aA S ?_;clear S;intro h b5 S ak;simp only [BZ,seval];refine aE (S.store (i:=0) rfl ?_ ?_ rfl rfl ?_ ono) ?_
       . exact(by exact Tryz.t135.2.1)
       . exact(by intro x e;cases e)
       . exact lbt rfl
       clear S;rintro h ⟨S,mo⟩;clear mo;simp only [LC,ag,lay,Xq,Xr,seval]at S;simp only [BZ,r2,S.ld (b:=b5) (o:=0) m0 rfl,seval];refine aE (aF S (i:=1) rfl ?_ ?_ ?_ ono) ?_
       . exact(by simp only [FA0])
       . exact(by exact aU)
       . exact Xg (lbt rfl)
       clear S;rintro h ⟨S,mo⟩;clear mo;simp only [LC,ag,lay,Xq,Xr,seval]at S;have k1:=S.old E (K (.inl rfl));have k3:=S.old O (K (.inr D));have k4:=S.old Q (K (.inr M));simp only [BZ];refine ar (aw rfl) (q:=0) (ps:=[]) (by kernel_rfl) ?_;simp only [BZ,cls,r1,r2,k1,k3,k4,sN,S.ld (b:=b2) (o:=0) m1 rfl,seval];have L:=S.fr;refine ih (j+1) _ _ (by omega) ⟨by omega,(γ.arcs.getD a default).s,F2,hs,H.2.symm,?_,af,hW _ _ _ _ ac L,S.row (by simp),by simp [aD,r0,r1,an,r2]⟩;exact⟨L.ok,Xk k.n L.n,fun b r H=>(L.get b (XI r k.n) (by rcases H with h|h|h;exact K (.inl h);exact K (.inr h);exact fun e=>by omega)).trans (k.data b r H),k.apart,fun b r=>XI (k.lt b r) L.n⟩
     . intro I a' _;simp only [BZ,seval];exact cE (cu ⟨rfl,_,rfl,rfl,.inr (.inl ⟨_,rfl,a'⟩)⟩)
     . intro v I a';exact absurd a' (hz v I)
 . exact⟨XM _,g,F,hu,by rw [XU],p,fun hm=>z b2 hm rfl,A,d,by simp [aD,c8,an]⟩
def rvC(n k:Nat)(f:Nat->Value):List Value:=(XJ n).map fun p=>if p<k\/n<=p+k then f (n-1-p)else f p
theorem pF{f:Nat->Value}:(rvC n k f).length=n:=by simp [rvC]
theorem sG{f:Nat->Value}(h:i<n):(rvC n k f)[i]? =some (if i<k\/n<=i+k then f (n-1-i)else f i):=lK (F:=fun p=>if p<k\/n<=p+k then f (n-1-p)else f p) h
theorem rvC_step{f:Nat->Value}(h:2*k+1<n):((rvC n k f).set k (f (n-1-k))).set (n-1-k) (f k)=rvC n (k+1) f:=by
 refine Xw fun i=>?_;rw [List.getElem?_set,List.getElem?_set,Xh,pF];by_cases a:i<n
 . rw [sG a,sG a];by_cases b:n-1-k=i
   . subst b;rw [if_pos rfl,if_pos a,if_pos (.inr (by omega)),show n-1-(n-1-k)=k by omega]
   . rw [if_neg b];by_cases d:k=i
     . subst d;rw [if_pos rfl,if_pos a,if_pos (.inl (by omega))]
     . rw [if_neg d];congr 1;by_cases c:i<k\/n<=i+k
       . rw [if_pos c,if_pos (by omega)]
       . rw [if_neg c,if_neg (by omega)]
 . rw [if_neg (by omega),if_neg (by omega)];rw [Xm (by rw [pF];omega),Xm (by rw [pF];omega)]
theorem rvC_zero:xs.flatMap bO=rvC xs.length 0 fun p=>.int .i64 (xs.getD p 0:Nat):=by
 have e:xs.flatMap bO=xs.map fun(x:Nat)=>Value.int .i64 x:=by rw [Xf,XE,Xf];rfl
 rw [e];refine Xw fun i=>?_;by_cases a:i<xs.length
 . rw [sG a,if_neg (by omega)];simp [a]
 . rw [Xm (by simpa using a),Xm (by rw [pF];omega)]
theorem rvC_done(h:xs.length<=2*k+1)(d:2*k<=xs.length):rvC xs.length k (fun p=>.int .i64 (xs.getD p 0:Nat))=xs.reverse.flatMap bO:=by
 have e:xs.reverse.flatMap bO=xs.reverse.map fun(x:Nat)=>Value.int .i64 x:=by rw [Xf,XE,Xf];rfl
 rw [e];refine Xw fun i=>?_;by_cases b:i<xs.length
 . rw [sG b,Xp,List.getElem?_reverse b];have a:xs.length-1-i<xs.length:=(by omega);rw [Xb a];have g: ∀{j:Nat} (a:j<xs.length),xs.getD j 0=xs[j]:=fun a=>(by simp [Xa,a]);by_cases c:i<k\/xs.length<=i+k
   . rw [if_pos c,g a];rfl
   . rw [if_neg c];have:i=xs.length-1-i:=(by omega);rw [g b];simp only [XB];congr 3;simp only [<-this]
 . rw [Xm (by rw [pF];omega),Xm (by simpa using b)]
theorem wW(t:OZ h0){v:Value}(x:ig h0 (v,1,xs.flatMap bO))(K:xs.length<1000000):
 Ret zM 137 [v] h0 fun _ h'=>Mo (av v) h0 h'/\ig h' (v,1,xs.reverse.flatMap bO):=by
 rcases x with⟨g,j⟩|⟨b,n,g,j,e3⟩
 . simp only []at g j;subst g;have:xs=[]:=by
    cases xs with
    |nil=>rfl|cons a l=>simp [bO]at j
   subst this;have S:=Si t;refine aa (n:=28) (rs:=[]) rfl Tryz.e137 rfl rfl rfl (lbt rfl) ?_;simp only [BZ,Xc,seval];rw [cF];have y:au .i64 (-1)= -1:=rfl;have z: ¬((0:Int)< -1):=(by omega);simp only [BZ,y,z,seval];exact⟨S.gr.fr,.inl ⟨rfl,rfl⟩⟩
 . simp only []at g j e3;subst g;have A:n=xs.length:=(by rw [oZ]at j;omega);subst A;rw [rvC_zero]at e3;have S:=St.init1 t (o:=.row _ 1) e3;have B:au .i64 ((xs.length:Int)-1)=(xs.length:Int)-1:=(by rw [wrap64]<;>omega);refine aa (n:=28) (rs:=[]) rfl Tryz.e137 rfl rfl rfl (lbt rfl) ?_;simp only [BZ,B,seval];refine bj (fun(k:Nat) r h=>2*k<=xs.length/\St (· =b) h0 h [(b,.row (rvC xs.length k fun p=>.int .i64 (xs.getD p 0:Nat)) 1)] []/\r 0=.slice (some ⟨b,0,some 1⟩) xs.length xs.length/\r 2=.int .i64 (k:Nat)/\r 3=.int .i64 ((xs.length:Int)-1-k)) (fun k=>xs.length-k) ?_ 0 _ _ ?_
   . clear S;intro k C r L ⟨hk,S,r0,r2,r3⟩;by_cases hlt:2*k+1<xs.length
     . have s:(k:Int)<(xs.length:Int)-1-k:=(by omega);have e:k<xs.length:=(by omega);have d:xs.length-1-k<xs.length:=(by omega);have D:(xs.length:Int)-1-k=((xs.length-1-k:Nat):Int):=(by omega);have E:au .i64 ((k:Int)+1)=((k+1:Nat):Int):=(by rw [wrap64]<;>omega);have F:au .i64 (((xs.length-1-k:Nat):Int)-1)=(xs.length:Int)-1-(k+1:Nat):=(by rw [wrap64]<;>omega);have u:=(S.row (b:=b) m0).load1 (sG e);have w:=(S.row (b:=b) m0).load1 (sG d);rw [if_neg (by omega)]at u w;rw [D]at r3 s;simp only [BZ,r2,r3,s,seval];refine ar (aw rfl) (q:=0) (ps:=[]) (by kernel_rfl) ?_;simp only [BZ,cls,r0,r2,r3,e,d,u,w,seval];refine cM (aF S (i:=0) rfl Tryz.t3.2.2.1 aU (by rw [pF];exact e) ono) ?_;clear S;rintro M ⟨S,G⟩;simp only [LC]at S;simp only [BZ,cls,d,seval];refine cM (aF S (i:=0) rfl Tryz.t3.2.2.1 aU (by rw [Xh,pF];exact d) ono) ?_;clear S;rintro N ⟨S,H⟩;simp only [LC]at S;have I:=rvC_step (f:=fun p=>.int .i64 (xs.getD p 0:Nat)) hlt;rw [I]at S;simp only [BZ,r2,r3,E,F,seval];exact C (k+1) _ _ (by omega) ⟨by omega,S,by simp [aD,r0]⟩
     . have s: ¬(k:Int)<(xs.length:Int)-1-k:=(by omega);simp only [BZ,r2,r3,s,seval];have m:=S.row m0;rw [rvC_done (by omega) hk]at m;exact⟨S.fr.mono (fun c J=>Eq.symm J),.inr ⟨b,xs.length,rfl,by show xs.length*1=(xs.reverse.flatMap bO).length;rw [oZ,List.length_reverse];omega,m⟩⟩
   . exact⟨by omega,S,by simp [aD,cK]⟩
def hI(l:List Nat):List Value:=l.map fun(x:Nat)=>.int .i64 x
theorem wj(l:List Nat):l.flatMap bO=hI l:=by unfold hI;rw [Xf,XE,Xf];rfl
theorem pK(l:List Nat):(hI l).length=l.length:=by simp [hI]
theorem natM_at{l:List Nat}(h:i<l.length):(hI l)[i]? =some (.int .i64 (l.getD i 0:Nat)):=by unfold hI;rw [Xp,Xb h];simp [Xa,h]
theorem CE(l:List Nat)(i x:Nat):(hI l).set i (.int .i64 (x:Nat))=hI (l.set i x):=by unfold hI;rw [Ym]
def swJ(l:List Nat)(j:Nat):List Nat:=(l.set j (l.getD (j-1) 0)).set (j-1) (l.getD j 0)
def bub(key:Nat->Int):Nat->List Nat->List Nat
 |0,l=>l|j+1,l=>if key (l.getD j 0)<key (l.getD (j+1) 0)then bub key j (swJ l (j+1))else l
def jV(key:Nat->Int)(k:Nat)(l:List Nat):List Nat:=(XJ k).foldl (fun l i=>bub key (i+1) l) l
theorem sq(key:Nat->Int)(k:Nat)(l:List Nat):jV key (k+1) l=bub key (k+1) (jV key k l):=by unfold jV;rw [List.range_succ,List.foldl_append];rfl
theorem swJ_len(l:List Nat)(j:Nat):(swJ l j).length=l.length:=by simp [swJ]
theorem Ck{l:List Nat}(h:j<l.length):(swJ l j).Perm l:=by have:((l.set j l[j-1]).set (j-1) l[j]).Perm l:=List.set_set_perm h (by omega);unfold swJ;rwa [show l.getD (j-1) 0=l[j-1] by simp [Xa,show j-1<l.length by omega],show l.getD j 0=l[j] by simp [Xa,h]]
theorem Be{key:Nat->Int}: ∀(j:Nat) {l:List Nat},j<l.length->(bub key j l).Perm l
 |0,l,_=>.refl _| j+1,l,h=>by
   unfold bub
   split
   . exact(Be j (by rw [swJ_len];omega)).trans (Ck h)
   . exact .refl _
theorem sF{key:Nat->Int}{l:List Nat}: ∀(k:Nat),k<l.length\/k=0->(jV key k l).Perm l
 |0,_=>.refl _| k+1,h=>by have a:=sF (key:=key) (l:=l) k (by omega);rw [sq];exact(Be (k+1) (by rw [a.length_eq];omega)).trans a
theorem BY{a b:Int}:nX a b<0↔a<b:=by
 unfold nX
 split
 . omega
 . split<;>omega
def CmpF(E:Env)(hq:Hp)(g:FuncId)(post:List Value)(N:Nat)(key:Nat->Int):Prop:= ∀h,Gr hq h-> ∀i j,i<N->j<N->aT E g ([.int .i64 (i:Nat),.int .i64 (j:Nat)]++post) h (.int .i64 (nX (key j) (key i)))
theorem Ez  (z:Gr hq h0)    {post:Array Value}  (p:Row h0 b (hI xs) 1) (Q:hq.n<=b) (R:xs.length<=20) (A: ∀x∈xs,x<N) (F:CmpF zM hq g post.toList N key):
 Ret zM 269 [.slice (some ⟨b,0,some 1⟩) xs.length xs.length,.int .i64 0,.int .i64 (xs.length:Nat),.func (.func g) #[] post] h0 fun _ h'=>Mo (· =b) h0 h'/\Row h' b (hI (jV key (xs.length-1) xs)) 1:=by
 have G:=z.ok;have S:=St.init1 G (o:=.row _ 1) p;have T:au .i64 (0+1)=((0+1:Nat):Int):=rfl;refine aa (n:=53) (rs:=[]) rfl Tryz.e269 rfl rfl rfl (lbt rfl) ?_;simp only [BZ,seval];refine bj (fun(i:Nat) a h=>i<=xs.length-1/\St (· =b) h0 h [(b,.row (hI (jV key i xs)) 1)] []/\a 0=.slice (some ⟨b,0,some 1⟩) xs.length xs.length/\a 1=.int .i64 0/\a 2=.int .i64 (xs.length:Nat)/\a 3=.func (.func g) #[] post/\a 8=.int .i64 ((i+1:Nat):Int)) (fun i=>xs.length-i) ?_ 0 _ _ ?_
 . clear S;intro i B a h ⟨hi,S,r0,r1,r2,r3,r8⟩;by_cases hlt:i+1<xs.length
   . simp only [BZ,r2,r8,aG,hlt,seval];have r:=sF (key:=key) (l:=xs) i (.inl (by omega));refine bj (fun(j:Nat) a h=>j<=i+1/\ ∃l,l.Perm xs/\bub key j l=bub key (i+1) (jV key i xs)/\St (· =b) h0 h [(b,.row (hI l) 1)] []/\a 0=.slice (some ⟨b,0,some 1⟩) xs.length xs.length/\a 1=.int .i64 0/\a 2=.int .i64 (xs.length:Nat)/\a 3=.func (.func g) #[] post/\a 8=.int .i64 ((i+1:Nat):Int)/\a 9=.int .i64 (j:Nat)) (fun j=>j) ?_ (i+1) _ _ ?_
     . clear S r0 r1 r2 r3 r8;intro j s a h ⟨hj,l,pm,hbub,S,r0,r1,r2,r3,r8,r9⟩;have U:=pm.length_eq;have C:au .i64 (((i+1:Nat):Int)+1)=((i+1+1:Nat):Int):=(by rw [wrap64]<;>omega);by_cases H:0<j
       . obtain⟨k,rfl⟩: ∃k,j=k+1:=⟨j-1,by omega⟩;have D:(0:Int)<((k+1:Nat):Int):=(by omega);have t:au .i64 (((k+1:Nat):Int)-1)=(k:Int):=(by rw [wrap64]<;>omega);have E:k+1<xs.length:=(by omega);have u:k<xs.length:=(by omega);have d:=(S.row (b:=b) m0).load1 (natM_at (i:=k+1) (by omega));have f:=(S.row (b:=b) m0).load1 (natM_at (i:=k) (by omega));have I:l.getD (k+1) 0<N:=(by refine A _ (pm.mem_iff.1 ?_);rw [Xa,Xb (by omega)];exact XA _);have J:l.getD k 0<N:=(by refine A _ (pm.mem_iff.1 ?_);rw [Xa,Xb (by omega)];exact XA _);simp only [BZ];refine ar (aw rfl) (q:=0) (ps:=[]) (by kernel_rfl) ?_;simp only [BZ,cls,r0,r1,r3,r9,D,t,E,u,d,f,seval];refine bg (F _ (((z.fr (M:=NoM)).trans S.fr (fun c e=>.inr (by omega))).gr) _ _ I J) ?_;intro h v;replace S:=S.call v;by_cases m:key (l.getD k 0)<key (l.getD (k+1) 0)
         . have w:nX (key (l.getD k 0)) (key (l.getD (k+1) 0))<0:=BY.2 m;replace d:=v.load d;replace f:=v.load f;simp only [BZ,cls,w,seval];refine ar (aw rfl) (q:=0) (ps:=[]) (by kernel_rfl) ?_;simp only [BZ,cls,r0,r9,t,E,u,d,f,seval];refine cM (aF S (i:=0) rfl Tryz.t3.2.2.1 aU (by rw [pK];omega) ono) ?_;clear S;rintro V ⟨S,K⟩;simp only [LC]at S;simp only [BZ,cls,u,seval];refine cM (aF S (i:=0) rfl Tryz.t3.2.2.1 aU (by rw [Xh,pK];omega) ono) ?_;clear S;rintro W ⟨S,L⟩;simp only [LC]at S;rw [CE,CE]at S;simp only [BZ,r9,t,seval];have e:bub key (k+1) l=bub key k (swJ l (k+1)):=(by show(if _ then _ else _)=_;rw [if_pos m]);exact s k _ _ (by omega) ⟨by omega,swJ l (k+1),(Ck (by omega)).trans pm,by rw [<-e];exact hbub,S,by simp [aD,r0,r1,r2,r3,r8]⟩
         . have w: ¬nX (key (l.getD k 0)) (key (l.getD (k+1) 0))<0:=fun h=>m (BY.1 h);have e:bub key (k+1) l=l:=(by show(if _ then _ else _)=_;rw [if_neg m]);rw [e]at hbub;simp only [BZ,cls,r8,w,C,seval];exact B (i+1) _ _ (by omega) ⟨by omega,by rw [sq,<-hbub];exact S,by simp [aD,r0,r1,r2,r3]⟩
       . have O:j=0:=(by omega);subst O;have y:l=bub key (i+1) (jV key i xs):=hbub;have D: ¬(0:Int)<((0:Nat):Int):=(by omega);simp only [BZ];refine ar (aw rfl) (q:=0) (ps:=[]) (by kernel_rfl) ?_;simp only [BZ,cls,Xc,r1,r8,r9,C,seval];exact B (i+1) _ _ (by omega) ⟨by omega,by rw [sq,<-y];exact S,by simp [aD,r0,r1,r2,r3]⟩
     . exact⟨XD _,_,r,rfl,S,by simp [aD,r0,r1,r2,r3,r8]⟩
   . simp only [BZ,r2,r8,aG,hlt,seval];have P:i=xs.length-1:=(by omega);subst P;exact⟨S.fr,S.row m0⟩
 . exact⟨XM _,S,by simp [aD,c8],by simp [aD,c8],by simp [aD,c8],by simp [aD,c8],by simp [aD];rfl⟩
theorem stable_ok(c:Gr hq h0){post:Array Value}(a:Row h0 b (hI xs) 1)(d:hq.n<=b)(m:xs.length<20)(e: ∀x∈xs,x<N)(i:CmpF zM hq g post.toList N key):
 Ret zM 243 [.slice (some ⟨b,0,some 1⟩) xs.length xs.length,.int .i64 (xs.length:Nat),.func (.func g) #[] post] h0 fun _ h'=>Mo (· =b) h0 h'/\Row h' b (hI (jV key (xs.length-1) xs)) 1:=by
 have j:=c.ok;have k: ¬(20:Int)<=(xs.length:Int):=by omega
 have l: ¬(20:Int)<(xs.length:Int):=by omega
 have S:=Si j;refine aa (n:=63) (rs:=[]) rfl Tryz.e243 rfl rfl rfl (lbt rfl) ?_;simp only [BZ,seval];rw [cF];simp only [BZ,k,seval];refine step_ret (Ez c a d (by omega) e i) ?_;rintro r h ⟨f,R⟩;simp only [BZ];rw [cF];simp only [BZ,l,seval];exact⟨f,R⟩
theorem AO(c:Gr hq h0){post:Array Value}(a:Row h0 b (hI xs) 1)(d:hq.n<=b)(e:xs.length<20)(f: ∀x∈xs,x<N)(i:CmpF zM hq g post.toList N key):
 Ret zM 188 [.slice (some ⟨b,0,some 1⟩) xs.length xs.length,.func (.func g) #[] post] h0 fun _ h'=>Mo (· =b) h0 h'/\Row h' b (hI (jV key (xs.length-1) xs)) 1:=by
 refine aa (n:=9) (rs:=[]) rfl Tryz.e188 rfl rfl rfl (lbt rfl) ?_;simp only [BZ,seval];refine step_ret (stable_ok c a d e f i) ?_;rintro r h q;simp only [BZ];exact q
theorem BJ(j:OZ h0){v:Value}(k:az h0 1 bO v xs)(u:xs.length<1000000)(d:xs≠ []):Ret zM 81 [v] h0 fun r h'=>Gr h0 h'/\ ∃b,r=.slice (some ⟨b,0,some 1⟩) xs.length xs.length/\Row h' b (hI xs) 1/\h0.n<=b:=by
 have S:=Si j;rcases k with⟨_,rfl⟩|⟨b,o,s,c,rfl,l,m⟩
 . exact absurd rfl d
 . refine aa (n:=8) (rs:=[.tmp 2]) rfl Tryz.e81 rfl rfl rfl (lbt rfl) ?_;simp only [BZ,seval];refine ae (ce (by exact Tryz.t41.1) (by exact XO) (by decide) (by rfl)) S ?_;clear S;intro h x S f;simp only [LC,bJ,cq,ag,Xx,Xo,Xn,XC,seval]at S;simp only [BZ,seval];have p:=S.fr.n;refine dQ (S.cloneW (enc:=bO) (ys:=xs) Tryz.t41.1 XO (by decide) Tryz.t41.2.2.2.2.2 (.inr ⟨b,o,s,c,rfl,l,S.old m (fun h=>h)⟩) dr (by decide) (by omega) (S.row m0)) ?_;rintro h' v ⟨q,g,y,t,w⟩;obtain⟨i,rfl,a⟩:=w d;simp only [BZ,ab,seval];rw [wj]at a;exact⟨q.gr,i,rfl,a,(t i rfl).elim (fun e=>by omega) (fun e=>Xk p e)⟩
theorem first_ok(j:Gr hq h0){v:Value}{post:Array Value}(t:az h0 1 bO v xs)(d:xs≠ [])(u:xs.length<20)(w: ∀x∈xs,x<N)(i:CmpF zM hq g post.toList N key)(C:1<=m):
 Ret zM 109 [v,.int .i64 (m:Nat),.func (.func g) #[] post] h0 fun r h'=>Gr h0 h'/\az h' 1 bO r ((jV key (xs.length-1) xs).take (min m xs.length))/\ ∀c,av r c->h0.n<=c:=by
 have y:=j.ok;have z:min (m:Int) (xs.length:Int)=((min m xs.length:Nat):Int):=by omega
 have q:=sF (key:=key) (l:=xs) (xs.length-1) (by cases xs with|nil=>exact absurd rfl d|cons a l=>simp);have S:=Si y;refine aa (n:=18) (rs:=[.tmp 6]) rfl Tryz.e109 rfl rfl rfl (lbt rfl) ?_;simp only [BZ,seval];refine step_ret (BJ S.ok t (by omega) d) ?_;rintro r h ⟨s,b,rfl,k,A⟩;have o:hq.n<=b:=Xk j.n A;simp only [BZ,seval];refine step_ret (AO (j.trans s) k o u w i) ?_;rintro r D ⟨f,R⟩;have B:=Bp (kd:=.i64) (b:=b) (len:=xs.length) (n:=min m xs.length) Tryz.t41.1 Tryz.t3.2.2.1 (cap:=xs.length) (Nat.min_le_right _ _);simp only [BZ,ab,XB,XQ,z,B,seval];refine⟨((s.fr (M:=NoM)).trans f (fun c e=>.inr (by omega))).gr,?_,fun c i=>by have i:b=c:=i;omega⟩;have p:((jV key (xs.length-1) xs).take (min m xs.length)).length=min m xs.length:=by rw [Xy,q.length_eq];omega
 refine .inr ⟨b,0,some 1,xs.length,by rw [p],by rw [p];exact Nat.min_le_right _ _,?_⟩;rw [p,R.load (by rw [pK,q.length_eq];omega),wj,XU,Xn];unfold hI;rw [List.map_take]
theorem rep64_ok(t:OZ h0){v:Value}(u:az h0 1 (encI .i64) v [x])(a:1<=N)(y:N<1000):Ret zM 235 [v,.int .i64 N] h0 fun r h'=>Gr h0 h'/\ ∃b,r=.slice (some ⟨b,0,none⟩) N N/\h0.n<=b/\Row h' b (zO N (.int .i64 x)) 1:=by
 have S:=Si t;have z: ¬((N:Int)<0):=by omega
 have A: ¬((9223372036854775807:Int)<(N:Int)):=by omega
 have B:au .u64 (N:Int)=(N:Int):=yZ (by omega) (by omega);have C:au .u64 1=1:=rfl;have D:au .i64 (N:Int)=(N:Int):=by rw [wrap64]<;>omega
 obtain⟨J,K,L,M,rfl,E,F⟩: ∃b o s c,v=.slice (some ⟨b,o,s⟩) 1 c/\1<=c/\h0.load b o 1=some [.int .i64 x]:=by
  rcases u with⟨_,h⟩|⟨b,o,s,c,rfl,G,H⟩
  . cases h
  . exact⟨b,o,s,c,rfl,G,H⟩
 refine aa (n:=48) (rs:=[.tmp 4]) rfl Tryz.e235 rfl rfl rfl (lbt rfl) ?_;simp only [BZ,jy,cU,ju,Xc,z,B,C,seval];refine am (mul_ok S.ok y) ?_;intro h g;replace S:=S.call g;clear g;simp only [BZ,jy,cU,ju,A,D,seval];refine ae (mD (by exact Tryz.t23.1) (by exact Tryz.e2E) (by omega) (by omega)) S ?_;clear S;intro h j S d;rw [XL,oW]at S;simp only [BZ,XL,seval];refine dQ (S.copyO (i:=0) (l:=zO 1 (.int .i64 x)) rfl Tryz.t23.1 Tryz.t2.2.2.1 (by rw [lz a];decide) (by rw [lz a];exact S.old F (fun h=>h)) (by simp;omega) rfl) ?_;clear S;rintro h w ⟨rfl,S⟩;simp only [LC]at S;rw [show zO N (Value.int .i64 0)=zO 0 (.int .i64 x)++zO N (.int .i64 0) by simp,vw a]at S;rw [lz a];simp only [BZ,Xc,seval];refine bj (fun(n:Nat) m h=>1<=n/\n<=N/\St NoM h0 h [(j,.row (zO n (.int .i64 x)++zO (N-n) (.int .i64 0)) 1)] []/\m 7=.slice (some ⟨j,0,none⟩) N N/\m 8=.int .i64 n) (fun n=>N-n) ?_ 1 _ _ ?_
 . clear S;intro n I m h ⟨hn1,hn,S,r7,r8⟩;by_cases hlt:n<N
   . simp only [BZ,r7,r8,aG,hlt,seval];refine ar (aw rfl) (q:=0) (ps:=[]) (by kernel_rfl) ?_;simp only [BZ,cls,XB,XQ,r7,r8,Ba Tryz.t23.1 Tryz.t2.2.2.1 hlt,AM Tryz.t23.1 Tryz.t2.2.2.1 (Yl hlt),seval];have p:0<dW n (N-n):=by
      rcases XZ n (N-n)with h|h
      . rw [lz h];omega
      . rw [vj h];omega
     have f:dW n (N-n)<=N-n/\dW n (N-n)<=n:=by
      rcases XZ n (N-n)with h|h
      . rw [lz h];omega
      . rw [vj h];omega
     refine mI (S.copyO (i:=0) (l:=zO (dW n (N-n)) (.int .i64 x)) rfl Tryz.t23.1 Tryz.t2.2.2.1 p ?_ (by simp;omega) (by simp;right;rfl)) ?_
     . rw [(S.row m0).load (by simp;omega),Xn,XU];congr 1;rw [XR (by simp;omega),Yf];congr 1;omega
     clear S;rintro h w ⟨rfl,S⟩;simp only [LC]at S;rw [vw f.1]at S;generalize dW n (N-n)=k at S p f;have w:au .i64 ((n:Int)+(k:Int))=((n+k:Nat):Int):=(by rw [wrap64]<;>omega);simp only [BZ,cls,w,seval];exact I (n+k) _ _ (by omega) ⟨by omega,by omega,by rw [show N-(n+k)=N-n-k by omega];exact S,by simp [aD,r7]⟩
   . simp only [BZ,ab,r7,r8,aG,hlt,seval];have e:n=N:=(by omega);subst e;have R:=S.row (b:=j) m0;rw [Yj,Yg,XG]at R;exact⟨S.gr,j,rfl,d,R⟩
 . exact⟨XD _,a,by simpa using S,by simp [aD]⟩
theorem repI_ok(t:OZ h0){v:Value}(u:az h0 1 (encI .i64) v [x])(a:1<=N)(y:N<1000):Ret zM 196 [v,.int .i64 N] h0 fun r h'=>Gr h0 h'/\ ∃b,r=.slice (some ⟨b,0,none⟩) N N/\h0.n<=b/\Row h' b (zO N (.int .i64 x)) 1:=by
 have S:=Si t;have z: ¬((N:Int)<0):=by omega
 have A: ¬((9223372036854775807:Int)<(N:Int)):=by omega
 have B:au .u64 (N:Int)=(N:Int):=yZ (by omega) (by omega);have C:au .u64 1=1:=rfl;have D:au .i64 (N:Int)=(N:Int):=by rw [wrap64]<;>omega
 obtain⟨J,K,L,M,rfl,E,F⟩: ∃b o s c,v=.slice (some ⟨b,o,s⟩) 1 c/\1<=c/\h0.load b o 1=some [.int .i64 x]:=by
  rcases u with⟨_,h⟩|⟨b,o,s,c,rfl,G,H⟩
  . cases h
  . exact⟨b,o,s,c,rfl,G,H⟩
 refine aa (n:=48) (rs:=[.tmp 4]) rfl Tryz.e196 rfl rfl rfl (lbt rfl) ?_;simp only [BZ,jy,cU,ju,Xc,z,B,C,seval];refine am (mul_ok S.ok y) ?_;intro h g;replace S:=S.call g;clear g;simp only [BZ,jy,cU,ju,A,D,seval];refine ae (mD (by exact Tryz.t41.1) (by exact XO) (by omega) (by omega)) S ?_;clear S;intro h j S d;rw [XL,oW]at S;simp only [BZ,XL,seval];refine dQ (S.copyO (i:=0) (l:=zO 1 (.int .i64 x)) rfl Tryz.t41.1 Tryz.t3.2.2.1 (by rw [lz a];decide) (by rw [lz a];exact S.old F (fun h=>h)) (by simp;omega) rfl) ?_;clear S;rintro h w ⟨rfl,S⟩;simp only [LC]at S;rw [show zO N (Value.int .i64 0)=zO 0 (.int .i64 x)++zO N (.int .i64 0) by simp,vw a]at S;rw [lz a];simp only [BZ,Xc,seval];refine bj (fun(n:Nat) m h=>1<=n/\n<=N/\St NoM h0 h [(j,.row (zO n (.int .i64 x)++zO (N-n) (.int .i64 0)) 1)] []/\m 7=.slice (some ⟨j,0,none⟩) N N/\m 8=.int .i64 n) (fun n=>N-n) ?_ 1 _ _ ?_
 . clear S;intro n I m h ⟨hn1,hn,S,r7,r8⟩;by_cases hlt:n<N
   . simp only [BZ,r7,r8,aG,hlt,seval];refine ar (aw rfl) (q:=0) (ps:=[]) (by kernel_rfl) ?_;simp only [BZ,cls,XB,XQ,r7,r8,Ba Tryz.t41.1 Tryz.t3.2.2.1 hlt,AM Tryz.t41.1 Tryz.t3.2.2.1 (Yl hlt),seval];have p:0<dW n (N-n):=by
      rcases XZ n (N-n)with h|h
      . rw [lz h];omega
      . rw [vj h];omega
     have f:dW n (N-n)<=N-n/\dW n (N-n)<=n:=by
      rcases XZ n (N-n)with h|h
      . rw [lz h];omega
      . rw [vj h];omega
     refine mI (S.copyO (i:=0) (l:=zO (dW n (N-n)) (.int .i64 x)) rfl Tryz.t41.1 Tryz.t3.2.2.1 p ?_ (by simp;omega) (by simp;right;rfl)) ?_
     . rw [(S.row m0).load (by simp;omega),Xn,XU];congr 1;rw [XR (by simp;omega),Yf];congr 1;omega
     clear S;rintro h w ⟨rfl,S⟩;simp only [LC]at S;rw [vw f.1]at S;generalize dW n (N-n)=k at S p f;have w:au .i64 ((n:Int)+(k:Int))=((n+k:Nat):Int):=(by rw [wrap64]<;>omega);simp only [BZ,cls,w,seval];exact I (n+k) _ _ (by omega) ⟨by omega,by omega,by rw [show N-(n+k)=N-n-k by omega];exact S,by simp [aD,r7]⟩
   . simp only [BZ,ab,r7,r8,aG,hlt,seval];have e:n=N:=(by omega);subst e;have R:=S.row (b:=j) m0;rw [Yj,Yg,XG]at R;exact⟨S.gr,j,rfl,d,R⟩
 . exact⟨XD _,a,by simpa using S,by simp [aD]⟩
def qM(A:List Arc)(f:Arc->Nat)(a:List Nat):List (List Value):=a.map fun(id:Nat)=>[.int .i64 id,.agg ⟨di ⟨0,f (A.getD id default),(A.getD id default).w⟩⟩]
theorem arcs_ok'(g:OZ h0){e f:Value}(i:Fl p)(j:Fl e)(k:Fl f):Ret zM 236 [p,e,f] h0 fun v h'=>Gr h0 h'/\ ∃b1 b2 a,v=.func (.func 263) #[] #[ptrTo b1,ptrTo b2,ptrTo a]/\h0.n<=b1/\h0.n<=b2/\h0.n<=a/\h'.load b1 0 1=some [e]/\h'.load b2 0 1=some [p]/\h'.load a 0 1=some [f]:=by have S:=Si g;refine aa (n:=8) (rs:=[.tmp 6]) rfl Tryz.e236 rfl rfl rfl (lbt rfl) ?_;simp only [BZ,seval];refine ae (bN (by assumption)) S ?_;clear S;intro h b2 S b;simp only [BZ,if_false,seval];refine ae (bN (by assumption)) S ?_;clear S;intro h b1 S c;simp only [BZ,if_false,seval];refine ae (bN (by assumption)) S ?_;clear S;intro h a S d;simp only [BZ,ab,seval];exact⟨S.gr,b1,b2,a,rfl,c,b,d,S.ld m1 rfl,S.ld m2 rfl,S.ld m0 rfl⟩
theorem arcs_it(D:OZ hq)(k:OZ h0)(O:fU hq h0)(P:hq.n<=h0.n){r:Value}{H t:Nat}(Q:aX hq H p γ){d:List Nat}(I:az h0 1 bO r d)(u: ∀id∈d,id<γ.arcs.length)(K:d.length<1000){f:Arc->Nat}(R:KeyF zM g f)
 (T:h0.load b1 0 1=some [r]) (U:h0.load b2 0 1=some [p]) (e3:h0.load t 0 1=some [.func (.func g) #[] #[]]):
 nG zM 263 [] [ptrTo b1,ptrTo b2,ptrTo t] h0 (fun c=>c=b1\/c=b2\/c=t\/av r c\/c<hq.n) (qM γ.arcs f d):=by
 intro V J Z W Y h F s B;refine enter (n:=32) (rs:=[]) rfl Tryz.e263 rfl rfl rfl (lbt rfl) ?_;have L:=s.load k T (.inl rfl);simp only [BZ,L,I.lenq,seval];refine bj (fun(i:Nat) l h=>i<=d.length/\ ∃F,ItS h0 (fun c=>c=b1\/c=b2\/c=t\/av r c\/c<hq.n) h F/\J i h F/\l 0=.func (.yield V) #[] #[]/\l 1=ptrTo b1/\l 2=ptrTo b2/\l 3=ptrTo t/\l 9=r/\l 10=.int .i64 d.length/\l 11=.int .i64 i) (fun i=>d.length-i) ?_ 0 _ _ ?_
 . clear L;intro i X l h ⟨hi,F,s,B,r0,r1,r2,r3,r9,r10,r11⟩;by_cases hlt:i<d.length
   . obtain⟨c,o,y,E⟩:=(s.sl k I (fun b h=>.inr (.inr (.inr (.inl h))))).ix (kd:=.i64) dr hlt;have l2:=s.load k U (.inr (.inl rfl));have l3:=s.load k e3 (.inr (.inr (.inl rfl)));have z:=u _ (XA hlt);have nt:aX h H p γ:=Q.keep D (s.keep O P (fun c hc=>.inr (.inr (.inr (.inr hc)))));have w:au .i64 ((i:Int)+1)=((i+1:Nat):Int):=(by rw [wrap64]<;>omega);have S:=Si s.ok;simp only [BZ,r2,r9,r10,r11,aG,hlt,y,E,bO,l2,seval];refine step_ret (kC S.ok nt z) ?_;rintro v h2 ⟨m,rfl⟩;replace S:=S.call m;clear m;simp only [BZ,seval];refine ae aA S ?_;clear S;intro h G S M;simp only [BZ,di,seval];refine aE (S.store (i:=0) rfl ?_ ?_ rfl rfl ?_ ono) ?_
     . exact(by exact Tryz.t135.2.1)
     . exact(by intro x e;cases e)
     . exact lbt rfl
     clear S;rintro h ⟨S,mo⟩;clear mo;simp only [LC,ag,lay,Xq,Xr,seval]at S;simp only [BZ,seval];refine ar (aw rfl) (q:=0) (ps:=[(4,6)]) (by kernel_rfl) ?_;simp only [BZ,cls,r0,r3,S.old l3 (fun h=>h),S.lds (b:=G) (o:=0) (n:=3) m0 (lbt rfl),seval];have A:=(S.row (b:=G) m0).lt S.ok;refine bg (R _ γ.arcs[d[i]] S.ok) ?_;intro N m;have C:=ah m A;replace S:=S.call m;clear m;simp only [BZ,cls,S.ld (b:=G) (o:=2) m0 rfl,seval];have gd:γ.arcs.getD d[i] default=γ.arcs[d[i]]:=(by simp [Xa,z]);have hx:(qM γ.arcs f d)[i]? =some [.int .i64 (d[i]:Nat),.agg ⟨[.int .i64 0,.int .i64 (f γ.arcs[d[i]]:Nat),.int .i64 (γ.arcs[d[i]].w:Nat)]⟩]:=(by unfold qM;rw [Xp,Xb hlt];simp only [XB,gd];rfl);refine dn_yield W Y (s.gr S.gr) (Y.gr _ _ _ _ B S.gr) (j:=i) hx ?_ ?_
     . intro N F' a s' _ _;simp only [BZ,cls,r11,w,seval];refine⟨by simp only [aK,aO,aH,aQ,aJ,ne_eq,not_false_eq_true,aS,bz,aN,aM,bG,bS,aC,XW,r0,r1,r2,r3,an,aq C,ao C,seval],?_⟩;exact X (i+1) _ _ (by omega) ⟨by omega,F',s',a,by simp [aD,r0,r1,an,r2,r3,r9,r10]⟩
     . intro N a _;simp only [BZ,cls,seval];refine⟨by simp only [aK,aO,aH,aQ,aJ,ne_eq,not_false_eq_true,aS,bz,aN,aM,bG,bS,aC,XW,r0,r1,r2,r3,an,aq C,ao C,seval],?_⟩;exact iE rfl ⟨rfl,.inr (.inl ⟨_,rfl,a⟩)⟩
   . simp only [BZ,r10,r11,aG,hlt,seval];have:i=d.length:=(by omega);subst this;exact cE (cu ⟨rfl,_,rfl,rfl,.inl ⟨_,F,rfl,by simpa [qM]using B⟩⟩)
 . exact⟨by omega,F,s,B,by simp [aD,c8,an]⟩
theorem ints_set(l:List Int)(i:Nat)(x:Int):(ints l).set i (.int .i64 x)=ints (l.set i x):=by
 have e4: ∀l:List Int,ints l=l.map fun x=>Value.int .i64 x:=fun l=>by unfold ints;rw [Xf,XE,Xf];rfl
 rw [e4,e4,Ym]
theorem reach_ok(Y:OZ h0){G arc far:Nat}{U vO:Value}{V:List (Value×Value×Nat)}{f:Int->Option Value}{j:List Int}
 (R:Row h0 br [p,U,.slice (some ⟨d,0,none⟩) N N,vO,.map (some G)] 1) (H:cG h0 F p N K) (Z:N<=1000) (a:h0.get G=some (.map V c)) (MI:dN V c f) (CF:ClF O f) (t:Row h0 d (ints j) 1) (D:j.length=N) (I:v<N)
 (Q:d∉F) (d2:br∉F) (d3:br≠d):
 Ret zM 237 [ptrTo br,.int .i64 v,.int .i64 arc,.int .i64 far] h0 fun _ h'=>Mo (fun c=>c∈F\/c=d) h0 h'/\ ∃F' m,cG h' F' p N (jR O K v far)/\(∀b∈F',b∈F\/h0.n<=b)/\Row h' d (ints m) 1/\m.length=N/\((jR O K v far=K/\m=j)\/(v∉O/\jR O K v far=dq K v (some (far:Int))/\m=j.set v arc)):=by
 have S:=Si Y;have ac:=t.lt Y;have J:=R.load1 (o:=0) rfl;have E:=R.load1 (o:=4) rfl;have l2:=R.load1 (o:=2) rfl;have pp: ∃b,p=ptrTo b:=by obtain⟨b,_,_,e,_⟩:=H.ex;exact⟨b,e⟩
 obtain⟨bp,rfl⟩:=pp;refine aa (n:=59) (rs:=[]) rfl Tryz.e237 rfl rfl rfl (lbt rfl) ?_;simp only [BZ,J,seval];refine am (ye S.ok H) ?_;intro h g;replace S:=S.call g;clear g;replace a:h.get G=some (.map V c):=S.gr.at a;have T:=H.gr S.gr;have y:=lG (x:=(v:Int)) Tryz.t230.1 Tryz.t3.1 (z:=.int .i64 0) (by kernel_rfl) a MI;rw [CF v]at y;replace J:=S.old J (fun h=>h);replace E:=S.old E (fun h=>h);replace l2:=S.old l2 (fun h=>h);replace t:Row h d (ints j) 1:=t.gr S.gr;have R1:=R.gr S.gr;have u:=S.gr;by_cases q:v∈O
 . rw [if_pos q,Xt]at y;simp only [BZ,E,y,seval];exact⟨u.fr,F,j,by unfold jR;rw [if_pos q];exact T,fun b l=>.inl l,t,D,.inl ⟨by unfold jR;rw [if_pos q],rfl⟩⟩
 . rw [if_neg q,Xz]at y;have ad:=t.lt u.ok;cases L:K v with
   | none=>
     have w:jR O K v far=dq K v (some (far:Int)):=(by unfold jR;rw [if_neg q,L]);simp only [BZ,J,E,y,Xz,Xj,seval];refine step_ret (pN u.ok T I Z L) ?_;rintro r A ⟨s,F',W,M⟩;have B:Row A d (ints j) 1:=s.has (o:=.row _ 1) t Q;have X:Row A br [ptrTo bp,U,.slice (some ⟨d,0,none⟩) N N,vO,.map (some G)] 1:=s.has (o:=.row _ 1) R1 d2;have C:=X.load1 (o:=2) rfl;have S:=St.init1 s.ok (o:=.row _ 1) B;simp only [BZ,C,I,seval];refine aE (aF S (i:=0) rfl Tryz.t3.2.2.1 aU (by rw [cD,D];exact I) ono) ?_;clear S;rintro h3 ⟨S,P⟩;simp only [LC]at S;rw [ints_set]at S;simp only [BZ];refine⟨(u.fr.trans (s.mono (fun c a=>.inl a)) (fun c a=>.inl a):Mo (fun c=>c∈F\/c=d) h0 A).trans P (fun c a=>.inl (.inr a)),F',j.set v arc,by rw [w];exact W.mo P (fun b l e=>by subst e;rcases M b l with h|h;exact Q h;omega),fun b l=>(M b l).imp (fun h=>h) (fun h=>Xk u.n h),S.row m0,by rw [Xh];exact D,.inr ⟨q,w,rfl⟩⟩
   | some k=>
     by_cases hle:k<=(far:Int)
     . have w:jR O K v far=K:=(by unfold jR;rw [if_neg q,L];simp only [];rw [if_pos hle]);simp only [BZ,E,y,hle,Xt,seval];exact⟨u.fr,F,j,by rw [w];exact T,fun b l=>.inl l,t,D,.inl ⟨w,rfl⟩⟩
     . have w:jR O K v far=dq K v (some (far:Int)):=(by unfold jR;rw [if_neg q,L];simp only [];rw [if_neg hle]);simp only [BZ,J,E,y,hle,Xt,seval];refine step_ret (rE u.ok T Z L (by omega)) ?_;rintro r A ⟨s,W⟩;have B:Row A d (ints j) 1:=s.has (o:=.row _ 1) t Q;have X:Row A br [ptrTo bp,U,.slice (some ⟨d,0,none⟩) N N,vO,.map (some G)] 1:=s.has (o:=.row _ 1) R1 d2;have C:=X.load1 (o:=2) rfl;have S:=St.init1 s.ok (o:=.row _ 1) B;simp only [BZ,C,I,seval];refine aE (aF S (i:=0) rfl Tryz.t3.2.2.1 aU (by rw [cD,D];exact I) ono) ?_;clear S;rintro h3 ⟨S,P⟩;simp only [LC]at S;rw [ints_set]at S;simp only [BZ];refine⟨(u.fr.trans (s.mono (fun c a=>.inl a)) (fun c a=>.inl a):Mo (fun c=>c∈F\/c=d) h0 A).trans P (fun c a=>.inl (.inr a)),F,j.set v arc,by rw [w];exact W.mo P (fun b l e=>by subst e;exact Q l),fun b l=>.inl l,S.row m0,by rw [Xh];exact D,.inr ⟨q,w,rfl⟩⟩
end Go.Ab

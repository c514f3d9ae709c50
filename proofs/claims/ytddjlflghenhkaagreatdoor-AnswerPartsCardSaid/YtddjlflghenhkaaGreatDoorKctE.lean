/- Nets, cells, flags: what the functions do (part 5). -/
import Derived.Test.YtddjlflghenhkaaGreatDoorKctD
open Go.Ab.Tryz
open Go.Ab.Tryz renaming abEnv->zM,e3E->Xp,e143E->X8
open List renaming mem_append_left->zO,append_nil->Xa,getD_eq_getElem?_getD->Xd,filterMap_nil->Xe,not_mem_nil->Xf,mem_append_right->Xh,mem_cons->Xk,map_cons->Xm,map_nil->Xr,flatMap_append->Xt,cons_append->Xv,nil_append->Xy,flatMap_cons->Xz,getElem_mem->XB,flatMap_nil->XC,length_append->XD,getElem?_eq_getElem->XI,take->XJ,drop->XK,mem_cons_self->XL,range->XM,sublist_cons_self->XO,take_succ_eq_append_getElem->XP,nil_sublist->XQ,length_set->XS,mem_or_eq_of_mem_set->XY,nodup_cons->X6,length_singleton->X7
open Int renaming tmod_eq_emod_of_nonneg->Xb,cast_ofNat_Int->Xc,natCast_emod->Xu,ofNat_eq_natCast->XG,tdiv_eq_ediv_of_nonneg->XX,ofNat->X9
open Nat renaming lt_of_succ_le->Xg,zero_le->Xi,zero_add->Xl,mul_le_mul_right->Xn,mul_one->Xo,zero_mul->Xq,one_mul->Xx,le_trans->XA,lt_of_lt_of_le->XF,le_refl->XH,mod_lt->XN,le_mul_of_pos_right->XZ
open Option renaming getD_some->Xj,getD_none->Xw,map_some->XE,map_none->XR,isSome_none->XV,isSome_some->XW
open Bool renaming and_true->Xs,not_not->XT,false_eq_true->XU
set_option maxHeartbeats 4000000
set_option linter.defProp false
set_option linter.unusedVariables false
set_option linter.unusedSimpArgs false
namespace Go.Ab
variable{h h0:Hp}
variable{N a b2 br c k lab m r s t v:Nat}
variable{b i j:Bool}
variable{R:Nat->List Int}
variable{p:List Nat}
variable{l pis:List Int}
variable{γ:Gra}
variable{pn vE vPi:Value}
variable{M:Nat->Prop}
variable{G:List GL}
variable{E:Env}
variable{A:List Arc}
variable{al:Nat->Bool}
variable{pi:Nat->Int}
open Go.Proofs
set_option maxRecDepth 10000
theorem bSetG_ok(t:OZ h0){o b:Nat}{B:Nat->Nat}(m:fG h0 k o b a c B)(p:k≠o){i:Nat}(d:b<=100)(e:a<=1000)(j:c=(a+7)/8)(x:Bool):
 Ret zM 39 [ptrTo k,.int .i64 (r:Nat),.int .i64 (i:Nat),.bool x] h0 fun v h'=>Mo (· =o) h0 h'/\ ∃u,fG h' k o b a c u/\(Tz a c B->Tz a c u):=by
 by_cases l:r<b/\i<a
 . exact bSetZ_ok t m p l.1 l.2 d e j x
 have A: ∀{h:Hp} {f:Value},Gr h0 h->Fl f->aT zM 99 [ptrTo k,.int .i64 (r:Nat),.int .i64 (i:Nat),f] h (.bool false):=by
  intro h f g E;have S:=Si g.ok;have q:=m.gr g;have w: ¬(r:Int)<0:=by omega
  have C: ¬(i:Int)<0:=by omega
  by_cases F:r<b
  . have s: ¬(b:Int)<=(r:Int):=(by omega);have D:(a:Int)<=(i:Int):=(by omega);refine aa (n:=46) (rs:=[.tmp 8]) rfl Tryz.e99 rfl rfl rfl (lbt rfl) ?_;simp only [BZ,w,seval];refine am (jH S.ok q.bits) ?_;intro h g;replace S:=S.call g;clear g;simp only [BZ,s,C,seval];refine am (jI S.ok (q.gr S.gr).bits) ?_;intro h g;replace S:=S.call g;clear g;simp only [BZ,ab,D,seval];exact S.gr
  . have s:(b:Int)<=(r:Int):=(by omega);refine aa (n:=46) (rs:=[.tmp 8]) rfl Tryz.e99 rfl rfl rfl (lbt rfl) ?_;simp only [BZ,w,seval];refine am (jH S.ok q.bits) ?_;intro h g;replace S:=S.call g;clear g;simp only [BZ,ab,s,seval];exact S.gr
 have S:=Si t;refine aa (n:=14) (rs:=[.tmp 8]) rfl Tryz.e39 rfl rfl rfl (lbt rfl) ?_;simp only [BZ,seval];refine ae (bN (by exact og)) S ?_;clear S;intro h G S y;simp only [BZ,seval];refine am (A S.gr eh) ?_;intro h g;replace S:=S.call g;clear g;simp only [BZ,seval];exact⟨S.gr.fr,B,m.gr S.gr,fun z=>z⟩
theorem fV.congr{n:Nat}{v:Value}{R':Nat->List Int}(r:fV h m v n R)(e: ∀i,i<n->R i=R' i):fV h m v n R':=by
 obtain⟨g,a,b,c,d⟩:=r;exact⟨g,a,b,c,fun i w f=>by
  have:=(List.getElem?_eq_some_iff.1 f).1;rw [<-e i (by omega)];exact d i w f⟩
theorem TabAt.congr{h:Hp}{m N:Nat}{p:Value}{l:List Int}{R Q R' Q':Nat->List Int}(t:TabAt h m p N l R Q)(a: ∀i,i<l.length->R i=R' i)(c: ∀i,i<l.length->Q i=Q' i):TabAt h m p N l R' Q':=by obtain⟨b,d,e,f,g,j,k,n,o,q,r⟩:=t.ex;exact⟨b,d,e,f,g,j,k,n.congr a,o.congr c,q,r⟩
def tabL(l:List Int)(R Q:Nat->List Int):Tab:=⟨l,(XM l.length).map R,(XM l.length).map Q⟩
theorem lJ{n i:Nat}(h:i<n):kQ ((XM n).map R) i=R i:=by unfold kQ;simp [Xd,h]
theorem tabL_at{p:Value}{Q:Nat->List Int}(t:TabAt h m p N l R Q):TabAt h m p N (tabL l R Q).l (kQ (tabL l R Q).to) (kQ (tabL l R Q).fr):=
 t.congr (fun i a=>(lJ a).symm) (fun i a=>(lJ a).symm)
theorem tabL_L{Q:Nat->List Int}(d:iT N l)(k:N<=1000)(c:1<=l.length)(e: ∀i,i<l.length->iw N (R i))(f: ∀i,i<l.length->iw N (Q i)):TabL N (tabL l R Q):=by
 have a: ∀{F:Nat->List Int},(∀i,i<l.length->iw N (F i))-> ∀r∈(XM l.length).map F,r.length=N/\ ∀x∈r,0<=x/\x<=72057594037927936:=fun {F} g r h=>by obtain⟨i,b,rfl⟩:=List.mem_map.1 h;exact g i (List.mem_range.1 b)
 exact⟨c,d.1,by simp [tabL],by simp [tabL],a e,a f,fun x j=>by
  obtain⟨i,b,rfl⟩:=List.getElem_of_mem (l:=l) j;have:=d.2 i b;simp only [Xd,XI b,Xj]at this;have c:=this.1;have m:=this.2.1;exact⟨c,by omega⟩⟩
theorem ownRows(c:OZ h0)(a:Good γ){e:Nat}(d:aX h0 e pn γ)(f:iT γ.nodes l){i:Nat}(g:i<l.length):iw γ.nodes (toR γ l i)/\iw γ.nodes (frR γ l i):=by have h:=f.2 i g;exact⟨⟨te _ _ _,fun x b=>AZ (fun v=>(exTo c a d (by omega) v).le) b⟩,te _ _ _,fun x b=>AZ (fun v=>(exFrom c a d (by omega) v).le) b⟩
theorem fits_im(f:OZ h0){a b:Value}{g:Nat}{m:List Int}{F:Bs}(h:aX h0 g pn γ)(i:1<=γ.nodes)(p:γ.nodes<1000000)(c:CelM h0 a b γ m F):aT zM 42 [pn,a,b] h0 (.bool true):=by obtain⟨k,q,r,d,e,B,j,l,rfl,n,o,_⟩:=c;have:=wV f h (.inr ⟨⟨k,j⟩,rfl⟩) o.bits i (by omega);simpa [l,n]using this
theorem Bh(E:OZ h0){b:Nat}{I:Img}(i:ImAt h0 b I):aT zM 9 [ptrTo b] h0 (.bool true):=by
 have S:=Si E;obtain⟨R,G,H,J,r,⟨U,w⟩,x,f,a⟩:=i;obtain⟨V,rfl⟩:=w.ptr;have K:=r.lt E;have c:=r.load1 (o:=0) rfl;have d:=r.load1 (o:=1) rfl;have k:=r.load1 (o:=2) rfl;have p:=r.load1 (o:=3) rfl;have L:=x.n1;have W:=x.n2;cases M:I.T with
 | none=>
   rw [M]at f;have f:G=.pointer none:=f;subst f;cases y:I.C with
   | none=>
     rw [y]at a;obtain⟨rfl,rfl⟩:=a;refine aa (n:=72) (rs:=[.tmp 2]) rfl Tryz.e9 rfl rfl rfl (lbt rfl) ?_;simp only [BZ,c,seval];refine ar (aw rfl) (q:=0) (ps:=[(10,14)]) (by kernel_rfl) ?_;simp only [BZ,cls,d,k,p,seval];refine⟨by simp only [aK,aO,aH,aQ,aJ,ne_eq,not_false_eq_true,aS,bz,aN,aM,bG,bS,aC,Xs,an,c8,seval];rfl,?_⟩;refine ar (aw rfl) (q:=0) (ps:=[]) (by kernel_rfl) ?_;simp only [BZ,cls,ab,seval];exact S.gr
   | some C=>
     obtain⟨m,F⟩:=C;rw [y]at a;have a:CelM h0 H J I.g m F:=a;obtain⟨P,Q,rfl,rfl⟩:=a.ptr;refine aa (n:=72) (rs:=[.tmp 2]) rfl Tryz.e9 rfl rfl rfl (lbt rfl) ?_;simp only [BZ,c,seval];refine ar (aw rfl) (q:=0) (ps:=[(10,14)]) (by kernel_rfl) ?_;simp only [BZ,cls,d,k,seval];refine⟨by simp only [aK,aO,aH,aQ,aJ,ne_eq,not_false_eq_true,aS,bz,aN,aM,bG,bS,aC,Xs,an,c8,seval];rfl,?_⟩;refine ar (aw rfl) (q:=0) (ps:=[]) (by kernel_rfl) ?_;simp only [BZ,cls,c,k,p,seval];refine bg (fits_im S.ok w L (by omega) a) ?_;intro h g;have s:=ah g K;replace S:=S.call g;simp only [BZ,cls,ab,seval];exact S.gr
 | some T=>
   rw [M]at f;have f:TabM h0 G I.g.nodes T:=f;obtain⟨X,rfl⟩:=f.ptr;obtain⟨⟨mt,A⟩,N⟩:=f;have t1:=N.l1;have t2:=N.l2;have O:(0:Int)<(T.l.length:Int):=(by omega);have q: ∀{t u B:Hp},Gr h0 t->Gr t u->Gr u B->leaves h0 t b=true/\leaves t u b=true/\leaves u B b=true:=fun e j l=>(by have:=e.n;have:=j.n;exact⟨ah e K,ah j (by omega),ah l (by omega)⟩);cases y:I.C with
   | none=>
     rw [y]at a;obtain⟨rfl,rfl⟩:=a;refine aa (n:=72) (rs:=[.tmp 2]) rfl Tryz.e9 rfl rfl rfl (lbt rfl) ?_;simp only [BZ,c,seval];refine ar (aw rfl) (q:=0) (ps:=[(10,14)]) (by kernel_rfl) ?_;simp only [BZ,cls,d,seval];refine bg (lI S.ok A) ?_;intro t e;replace S:=S.call e;simp only [BZ,cls,e.load c,seval];refine bg (bM S.ok (w.gr S.gr)) ?_;intro u j;replace S:=S.call j;simp only [BZ,cls,S.gr.load d,seval];refine bQ (jG S.ok (A.gr S.gr) (by omega)) ?_;rintro v B ⟨l,D,_⟩;obtain⟨s,z,e3⟩:=q e j l;replace S:=S.call l;simp only [BZ,cls,D.lenq,O,S.gr.load c,S.gr.load d,S.gr.load k,S.gr.load p,seval];refine⟨by simp only [aK,aO,aH,aQ,aJ,ne_eq,not_false_eq_true,aS,bz,aN,aM,bG,bS,aC,Xs,an,c8,aq s,ao s,aq z,ao z,aq e3,ao e3,seval],?_⟩;refine ar (aw rfl) (q:=0) (ps:=[]) (by kernel_rfl) ?_;simp only [BZ,cls,ab,S.gr.load c,S.gr.load d,S.gr.load k,S.gr.load p,seval];exact S.gr
   | some C=>
     obtain⟨m,F⟩:=C;rw [y]at a;have a:CelM h0 H J I.g m F:=a;obtain⟨P,Q,rfl,rfl⟩:=a.ptr;refine aa (n:=72) (rs:=[.tmp 2]) rfl Tryz.e9 rfl rfl rfl (lbt rfl) ?_;simp only [BZ,c,seval];refine ar (aw rfl) (q:=0) (ps:=[(10,14)]) (by kernel_rfl) ?_;simp only [BZ,cls,d,seval];refine bg (lI S.ok A) ?_;intro t e;replace S:=S.call e;simp only [BZ,cls,e.load c,seval];refine bg (bM S.ok (w.gr S.gr)) ?_;intro u j;replace S:=S.call j;simp only [BZ,cls,S.gr.load d,seval];refine bQ (jG S.ok (A.gr S.gr) (by omega)) ?_;rintro v B ⟨l,D,_⟩;obtain⟨s,z,e3⟩:=q e j l;replace S:=S.call l;simp only [BZ,cls,D.lenq,O,S.gr.load c,S.gr.load d,S.gr.load k,S.gr.load p,seval];refine⟨by simp only [aK,aO,aH,aQ,aJ,ne_eq,not_false_eq_true,aS,bz,aN,aM,bG,bS,aC,Xs,an,c8,aq s,ao s,aq z,ao z,aq e3,ao e3,seval],?_⟩;refine ar (aw rfl) (q:=0) (ps:=[]) (by kernel_rfl) ?_;simp only [BZ,cls,S.gr.load c,S.gr.load d,S.gr.load k,S.gr.load p,seval];have Y:=S.gr.n;refine bg (fits_im S.ok (w.gr S.gr) L (by omega) (a.gr S.gr)) ?_;intro h g;have e4:=ah g (show b<_ by omega);replace S:=S.call g;simp only [BZ,cls,ab,seval];exact S.gr
theorem St.growB{L:List (Nat×Ob)}(S:St M h0 h L G){t w e:TypeId}{f len b md:Nat}{y vs new:List Value}{x:Value}(B:Row h b vs md)(a:len*k=vs.length)(C:E.und t=some (.slice e))(D:fk E e f k y)(F:0<f)
 (q:eR E w=some false) (g:aR h k x=some (m,new)) (z:m*k=new.length) (H:0<m) (A:0<k) (r:(vs.length+new.length)*(f+1)<=70368744177664) {ts:List TypeId}:
 ∃h' v',dM E h (t::w::ts) (.slice (some ⟨b,0,none⟩) len len) x=some (h',v')/\St M h0 h' L ((v',k,vs++new)::G):=by
 obtain⟨⟨i,I,rfl,rfl⟩,J,K⟩:=D;obtain⟨p,N,j,d,s⟩:=B;have l:Nat.ble (len+m) len=false:=by
  cases q:Nat.ble (len+m) len with
  |false=>rfl|true=>exact absurd (lbt q) (by omega)
 have o:len+m<=vs.length+new.length:=by rw [<-a,<-z];have H:=XZ len A;have O:=XZ m A;omega
 have c:(Nat.ble ((len+m)*(i.bytes+1)) 70368744177664&&Nat.blt 0 i.bytes)=true:=by rw [Nat.ble_eq_true_of_le (XA (Xn _ o) r)];simp only [Bool.true_and];rw [Nat.blt_eq];exact F
 have u:Nat.beq y.length i.size=true:=by rw [K];exact Nat.beq_refl _
 have v:lg p vs.length 0 (len*i.size) new=some (p.pushAll vs.length new,vs.length+new.length):=by unfold lg;rw [a,Nat.beq_refl vs.length];rfl
 refine⟨h.new (.cells (p.pushAll vs.length new) (vs.length+new.length) e 1),.slice (some ⟨h.n,0,some i.size⟩) (len+m) (len+m),?_,S.newG (n:=len+m) ?_ ?_⟩
 . unfold dM;simp only [q];unfold lE;simp only [C,I,g];unfold ic;rw [l];simp only [cond_false];rw [c,J];simp only [cond_true,u];unfold pX;simp only [j,v]
 . rw [Nat.add_mul,a,z,XD]
 . refine⟨p.pushAll vs.length new,e,?_,?_,fun n=>?_⟩
   . rw [Hp.get_new _ _ S.ok,if_pos rfl,XD]
   . rw [XD];exact Tr.sized_pushAll _ d
   . rw [Tr.get_pushAll _ _ _ d,List.getElem?_append]
     split
     . exact s n
     . rfl
theorem pos_first{ks:List Int}{x:Int}: ∀{i:Nat} (a:i<ks.length),ks[i]=x->(∀j (c:j<ks.length),j<i->ks[j]≠x)->pos ks x=some i:=by
 induction ks with
 |nil=>intro i a;simp at a| cons y k f=>
   intro i a b d;cases i with
   |zero=>simp only [List.getElem_cons_zero]at b;unfold pos;rw [if_pos b.symm]| succ i=>
     have g:y≠x:=d 0 (by simp) (by omega);have:=f (i:=i) (by simpa using a) (by simpa using b) (fun j c h=>by have:=d (j+1) (by simpa using c) (by omega);simpa using this);unfold pos;rw [if_neg (fun e=>g e.symm),this];rfl
theorem pos_no{ks:List Int}{x:Int}(a: ∀j (b:j<ks.length),ks[j]≠x):pos ks x=none:=by
 induction ks with
 |nil=>rfl| cons y f c=>
   have d:y≠x:=a 0 (by simp);unfold pos;rw [if_neg (fun e=>d e.symm),c (fun j b=>by have:=a (j+1) (by simpa using b);simpa using this)];rfl
theorem EI  (ok:OZ h0) {v:Value}  (K:az h0 1 (encI .i64) v l) (hl:l.length<1000):
 Ret zM 37 [v] h0 fun r h'=>Gr h0 h'/\az h' 1 (encI .i64) r (norm [] l)/\ ∀c,av r c->h0.n<=c:=by
 have S:=Si ok;have fv:=K.fl;refine aa (n:=46) (rs:=[.tmp 2]) rfl Tryz.e37 rfl rfl rfl (lbt rfl) ?_;simp only [BZ];replace S:=(S.nilG (k:=1)).nilG (k:=1);refine bj (fun(i:Nat) g h=>i<=l.length/\ ∃(L C:Value) (p ks:List Int),St NoM h0 h [] [(C,1,ints ks),(L,1,ints p)]/\norm [] l=p++norm ks (l.drop i)/\p.length=i/\ks.length<=i/\g 0=v/\g 3=L/\g 4=C/\g 5=.int .i64 i) (fun i=>l.length-i) ?_ 0 _ _ ?_
 . clear S;intro i W g h ⟨hi,L,C,p,ks,S,hnm,lo,lk,s,A,B,t⟩;have w:au .i64 ((i:Int)+1)=((i+1:Nat):Int):=(by rw [wrap64]<;>omega);by_cases hlt:i<l.length
   . have X:l.drop i=l[i]::l.drop (i+1):=List.drop_eq_getElem_cons hlt;obtain⟨c0,o0,P,Y⟩:=K.ix (kd:=.i64) (bV .i64) hlt;generalize l[i]=x at X Y;simp only [BZ,s,t,K.lenq,aG,hlt,seval];refine bj (fun(a:Nat) g h'=>h'=h/\a<=ks.length/\(∀j (F:j<ks.length),j<a->ks[j]≠x)/\g 0=v/\g 3=L/\g 4=C/\g 5=.int .i64 i/\g 6=.int .i64 a) (fun a=>ks.length-a) ?_ 0 _ _ ?_
     . clear s A B t;rintro a Q g h' ⟨rfl,ha,R,s,A,B,t,M⟩;have wa:au .i64 ((a:Int)+1)=((a+1:Nat):Int):=(by rw [wrap64]<;>omega);have N:az h' 1 (encI .i64) C ks:=(S.gown _ m0).1.sl rfl (fun _=>rfl) (by decide);have D:h'.load c0 o0 1=some [.int .i64 x]:=S.gr.load Y;have G: ∀(q:Nat) (z:List Int) (u d:Value) (T:Nat->Value) (E:Hp),q=pP ks x->z=pM ks x->St NoM h0 E [] [(u,1,ints z),(d,1,ints (p++[(q:Int)]))]->norm [] l=(p++[(q:Int)])++norm z (l.drop (i+1)):=fun q z u d T E e1 e2 _=>(by rw [hnm,X,norm,<-e1,<-e2,List.append_assoc];rfl);by_cases y:a<ks.length
       . obtain⟨c1,o1,Z,H⟩:=N.ix (kd:=.i64) (bV .i64) y;replace H:h'.load c1 o1 1=some [.int .i64 ks[a]]:=H;by_cases O:ks[a]=x
         . simp only [BZ];refine ar (aw rfl) (q:=0) (ps:=[]) (by kernel_rfl) ?_;have U: ¬(a:Int)=(ks.length:Int):=(by omega);rw [O]at H;simp only [BZ,cls,ab,s,A,B,t,M,N.lenq,aG,y,Z,H,P,D,U,seval];refine ae (ce (by exact Tryz.t41.1) (by exact Xp) (by decide) (by rfl)) S ?_;clear S;intro h I S J;simp only [LC,bJ,cq,ag,Xq,Xl,Xo,Xx,seval]at S;simp only [BZ,seval];have ps:=pos_first y O R;have f:aR h 1 (.slice (some ⟨I,0,none⟩) 1 1)=some (1,ints [(a:Int)]):=(by simp only [aR];rw [S.lds (b:=I) (o:=0) (n:=1*1) m0 (lbt rfl)];rfl);replace S:=S.drop1;refine dQ (S.grow (j:=1) (m:=1) (new:=ints [(a:Int)]) rfl Tryz.t41.1 Xp (by decide) Tryz.t41.2.2.2.2.2 f rfl (by decide) rfl (by rw [cD,cD];simp;omega)) ?_;clear S f;rintro E d S;simp only [LC]at S;rw [<-iH]at S;simp only [BZ,t,w,seval];refine W (i+1) _ _ (by omega) ⟨by omega,d,C,_,ks,S,G a ks C d g E (by unfold pP;rw [ps]) (by unfold pM;rw [ps]) S,by simp [lo],by omega,by simp [aD,s,B]⟩
         . simp only [BZ];refine ar (aw rfl) (q:=0) (ps:=[]) (by kernel_rfl) ?_;simp only [BZ,cls,s,B,t,M,N.lenq,aG,y,Z,H,P,D,O,wa,seval];refine Q (a+1) _ _ (by omega) ⟨rfl,by omega,fun j F ad=>?_,by simp [aD,s,A,B,t]⟩;by_cases e:j=a
           . subst e;exact O
           . exact R j F (by omega)
       . have ea:a=ks.length:=(by omega);subst ea;have ps:=pos_no (ks:=ks) (x:=x) (fun j F=>R j F F);simp only [BZ];refine ar (aw rfl) (q:=0) (ps:=[]) (by kernel_rfl) ?_;simp only [BZ,cls,ab,s,A,B,t,M,N.lenq,aG,y,P,D,seval];refine ae (ce (by exact Tryz.t41.1) (by exact Xp) (by decide) (by rfl)) S ?_;clear S;intro h I S J;simp only [LC,bJ,cq,ag,Xq,Xl,Xo,Xx,seval]at S;simp only [BZ,seval];have f:aR h 1 (.slice (some ⟨I,0,none⟩) 1 1)=some (1,ints [x]):=(by simp only [aR];rw [S.lds (b:=I) (o:=0) (n:=1*1) m0 (lbt rfl)];rfl);replace S:=S.drop1;refine dQ (S.grow (j:=0) (m:=1) (new:=ints [x]) rfl Tryz.t41.1 Xp (by decide) Tryz.t41.2.2.2.2.2 f rfl (by decide) rfl (by rw [cD,cD];simp;omega)) ?_;clear S f;rintro E u S;simp only [LC]at S;rw [<-iH]at S;simp only [BZ,A,M,seval];refine ae (ce (by exact Tryz.t41.1) (by exact Xp) (by decide) (by rfl)) S ?_;clear S;intro h bu S ac;simp only [LC,bJ,cq,ag,Xq,Xl,Xo,Xx,seval]at S;simp only [BZ,seval];have f:aR h 1 (.slice (some ⟨bu,0,none⟩) 1 1)=some (1,ints [((ks.length:Nat):Int)]):=(by simp only [aR];rw [S.lds (b:=bu) (o:=0) (n:=1*1) m0 (lbt rfl)];rfl);replace S:=S.drop1;refine dQ (S.grow (j:=1) (m:=1) (new:=ints [((ks.length:Nat):Int)]) rfl Tryz.t41.1 Xp (by decide) Tryz.t41.2.2.2.2.2 f rfl (by decide) rfl (by rw [cD,cD];simp;omega)) ?_;clear S f;rintro E d S;simp only [LC]at S;rw [<-iH]at S;simp only [BZ,t,w,seval];refine W (i+1) _ _ (by omega) ⟨by omega,d,u,_,_,S,G ks.length _ u d g E (by unfold pP;rw [ps]) (by unfold pM;rw [ps]) S,by simp [lo],by simp;omega,by simp [aD,s]⟩
     . exact⟨rfl,Xi _,fun j F h=>absurd h (by omega),by simp [aD,s,A,B,t]⟩
   . have V:i=l.length:=(by omega);simp only [BZ,ab,s,A,t,K.lenq,aG,hlt,seval];rw [V,List.drop_length,norm,Xa]at hnm;rw [hnm];exact⟨S.gr,(S.gown _ m1).1.sl rfl (fun _=>rfl) (by decide),fun c hc=>((S.gblk m1 hc).1).elim (fun h=>h) (fun h=>h.elim)⟩
 . exact⟨Xi _,_,_,[],[],S,rfl,rfl,XH _,by simp [aD,c8]⟩
def TabY(h:Hp)(k:Nat)(a:Prop)(p:Value)(γ:Gra):Option Tab->Prop
 |none=>p=.pointer none|some T=>(∃m,k<m/\TabAt h m p γ.nodes T.l (kQ T.to) (kQ T.fr))/\TabL γ.nodes T/\T.l.length<=4/\iT γ.nodes T.l/\(a-> ∀i,i<T.l.length->kQ T.to i=toR γ T.l i/\kQ T.fr i=frR γ T.l i)
def CelY(h:Hp)(g:Prop)(a c:Value)(γ:Gra):Option (List Int×Bs)->Prop
 |none=>a=.pointer none/\c=.pointer none|some (m,F)=>CelM h a c γ m F/\ ∃i d j e k b f,a=ptrTo j/\c=ptrTo e/\gJ h i a γ.nodes m d/\gP m+1=((b:Nat):Int)/\b<=100/\fG h e k b γ.arcs.length ((γ.arcs.length+7)/8) f/\(g->OkB γ d ((γ.arcs.length+7)/8) b 0 f)
def Im32(h:Hp)(b:Nat)(I:Img)(f g:Prop):Prop:=Good I.g/\ ∃a c d e i,Row h b [ptrTo a,c,d,e] 1/\aX h i (ptrTo a) I.g/\TabY h 0 f c I.g I.T/\CelY h g d e I.g I.C
theorem b_andB2{t:TypeId}{p q:Operand}{x:Nat}(h:x<256):bZ E .and t p q (.int .u8 (x:Int)) (.int .u8 1)=some (.int .u8 ((x%2:Nat):Int)):=by rw [<-Nat.and_one_is_mod];exact b_andN (k:=.u8) (x:=x) (y:=1) rfl (by simp only [pw];omega) (by decide)
theorem zw{j:Nat}(g:a<=255)(b:j<8){t:TypeId}{p q:Operand}:bZ E .and t p q (.int .u8 (a:Int)) (.int .u8 ((2 ^j:Nat):Int))=some (.int .u8 ((if a/2 ^j%2=1 then 2 ^j else 0:Nat):Int)):=by
 have h:=b_andN (E:=E) (t:=t) (p:=p) (q:=q) (k:=.u8) (x:=a) (y:=2 ^j) rfl (by simp only [pw];omega) (pow8 b);rw [h];congr 2;have:a&&& 2 ^j=if a/2 ^j%2=1 then 2 ^j else 0:=by
  refine Nat.eq_of_testBit_eq fun i=>?_;rw [Nat.testBit_and,Nat.testBit_two_pow];have c:a.testBit j=decide (a/2 ^j%2=1):=Nat.testBit_eq_decide_div_mod_eq ..
  by_cases e:j=i
  . subst e;rw [c];by_cases d:a/2 ^j%2=1<;>simp [d]
  . have f: ¬i=j:=fun h=>e h.symm
    split<;>simp [Nat.testBit_two_pow,e,f]
 rw [this]
theorem TabY.mo{M:Nat->Prop}{h h':Hp}{k:Nat}{d:Prop}{γ:Gra}{p:Value}{T:Option Tab}(t:TabY h k d p γ T)(g:Mo M h h')(e: ∀b,M b->b<=k):TabY h' k d p γ T:=by
 cases T with
 |none=>exact t| some T=>
   obtain⟨⟨m,a,b⟩,c⟩:=t;exact⟨⟨m,a,b.mo g (fun x f=>by have:=e x f;omega)⟩,c⟩
theorem TabY.fl{a:Prop}{p:Value}{T:Option Tab}(t:TabY h k a p γ T):Fl p:=by
 cases T with
 |none=>have t:p=.pointer none:=t;subst t;exact bH|some T=>obtain⟨⟨m,_,b⟩,_⟩:=t;obtain⟨_,_,_,_,rfl,_⟩:=b.ex;exact bH
def sY(O:List Int)(i:Nat):Int:=if O.length=0 then 0 else(O.getD (i%O.length) 0).tmod 4
theorem made32_ok  (ok:OZ h0) {vB vO vM vN q5 q6 q7:Value}  {B O ms W:List Int} (hB:SlW h0 .u8 vB B) (hO:SlW h0 .u8 vO O) (cO: ∀x∈O,0<=x/\x<=255) (hM:SlW h0 .u8 vM ms) (cr: ∀x∈ms,0<=x/\x<=255) (hN:SlW h0 .i64 vN W) (cN: ∀x∈W,-9223372036854775808<=x/\x<=9223372036854775807) (hh:a<=255):
 Ret zM 8 [.agg ⟨[vB,vO,vM,.int .u8 (a:Nat),vN,q5,q6,q7]⟩] h0 fun r h'=>Gr h0 h'/\ ∃b I,r=ptrTo b/\Im32 h' b I (a/4%2=0) (a/8%2=0)/\I.T.isSome=decide (a%2=1)/\I.C.isSome=decide (a/2%2=1):=by
 have S:=Si ok;have fB:=hB.sl.fl;have fO:=hO.sl.fl;have fM:=hM.sl.fl;have fN:=hN.sl.fl;have mn:min (B.length:Int) 50=((min B.length 50:Nat):Int):=by omega
 obtain⟨b0,cs,sB,bB⟩:=hB.low (kd':=.i64) (n:=min B.length 50) Tryz.t22.1 Tryz.t5.2.2.1 (Nat.min_le_left _ _);have cv:=sB.fl;refine aa (n:=278) (rs:=[.tmp 2]) rfl Tryz.e8 rfl rfl rfl (lbt rfl) ?_;simp only [BZ,seval];refine ae (bA (by intro x e;cases e)) S ?_;clear S;intro h A S eb;simp only [ag]at S;simp only [BZ,XE,XR,hB.sl.lenq,mn,cs,cv,S.ld (b:=A) (o:=0) m0 rfl,seval];refine ae (bA (by intro x e;cases e)) S ?_;clear S;intro h bd S b2;simp only [ag]at S;have cx:az h 1 (encI .u8) b0 (B.take (min B.length 50)):=sB.gr S.gr;have nB: ¬av b0 bd:=fun L=>by have:=sB.lt ok L;omega
 have cA:(B.take (min B.length 50)).length<1000000:=by rw [List.length_take];omega
 simp only [BZ,seval];have k0:=S.fr.n;have ap:=S.apart;simp only [keys,Xm,Xr,Xe,Xa,X6,Xk,Xf,or_false,not_or]at ap;have ei:=(S.row (b:=A) m1).lt S.ok;refine step_ret (raw_ok S.ok (S.row m0) ⟨cx,nB,cA,by omega⟩) ?_;rintro v h ⟨fr,u,vx,vy,va,rfl,ad,ga,hz⟩;have n1:=ad.n1;have n2:=ad.n2;replace S:=S.drop1.step fr (fun c L=>by subst L;exact .inr b2) (fun c L e=>by simp [keys]at L;omega);have fx:=ga.X.fl;have fy:=ga.Y.fl;have fa:=ga.A.fl;have gS:=S.gr;have S0:=S;replace S:=S.base;simp only [BZ,mY];refine ae aA S ?_;clear S;intro h D S ec;simp only [BZ,seval];refine aE (S.store (i:=0) rfl Tryz.t57.2.1 (by intro x e;cases e) rfl (by simp only [ag,List.all_cons,List.all_nil,fx.2.1,fy.2.1,fa.2.1,Xs];rfl) (lbt rfl) ono) ?_;clear S;rintro h ⟨S,Z⟩;simp only [LC,ag,lay,XJ,XK,seval]at S;have cI:=ga.mo S.fr (fun c L Y=>by have:=hz c L;simp [keys]at Y;omega);simp only [BZ,List.drop_zero,List.take_succ_cons,List.take_zero,S.lds (b:=D) (o:=0) (n:=4) m0 (lbt rfl),seval];have q4:=(S.row (b:=D) m0).lt S.ok;have q1:=(S.row (b:=A) m1).lt S.ok;refine step_ret (netNew_ok S.ok ad.b cI) ?_;rintro v h ⟨p,rfl,g,hp⟩;replace S:=S.call g;clear g;obtain⟨P,rfl⟩:=hp.ptr;replace S:=S0.rebase S;have ax:=S.gr;have el:=S.ok;clear S0;replace S:=S.base;simp only [LC,keys,Xm,Xr,Xe]at S;rename Hp=>hC0;have z4:=(S.row (b:=D) m0).lt S.ok;have z1:=(S.row (b:=A) m1).lt S.ok;simp only [BZ,seval];refine ae (bA (by intro x e;cases e)) S ?_;clear S;intro h F S b3;simp only [ag]at S;have d1:decide (((a%2:Nat):Int)=1)=decide (a%2=1):=decide_eq_decide.2 (by omega);have a2: ∀(t:TypeId) (p q:Operand),bZ zM .and t p q (.int .u8 (a:Nat)) (.int .u8 2)=some (.int .u8 ((if a/2%2=1 then 2 else 0:Nat):Int)):=fun t p q=>zw hh (j:=1) (by decide);have d2:decide (((if a/2%2=1 then 2 else 0:Nat):Int)=2)=decide (a/2%2=1):=decide_eq_decide.2 (by split<;>omega);have a4: ∀(t:TypeId) (p q:Operand),bZ zM .and t p q (.int .u8 (a:Nat)) (.int .u8 4)=some (.int .u8 ((if a/4%2=1 then 4 else 0:Nat):Int)):=fun t p q=>zw hh (j:=2) (by decide);have d4:decide (((if a/4%2=1 then 4 else 0:Nat):Int)=4)=decide (a/4%2=1):=decide_eq_decide.2 (by split<;>omega);have a8: ∀(t:TypeId) (p q:Operand),bZ zM .and t p q (.int .u8 (a:Nat)) (.int .u8 8)=some (.int .u8 ((if a/8%2=1 then 8 else 0:Nat):Int)):=fun t p q=>zw hh (j:=3) (by decide);have d8:decide (((if a/8%2=1 then 8 else 0:Nat):Int)=8)=decide (a/8%2=1):=decide_eq_decide.2 (by split<;>omega);have n7:=b3;have nb: ∀c,c<h0.n-> ¬c∈[D,A]:=fun c L Y=>by simp only [Xk,Xf,or_false]at Y;have:=gS.n;omega
 have cT: ∀c,c∈[D,A]->h0.n<=c:=fun c Y=>by simp only [Xk,Xf,or_false]at Y;have:=gS.n;omega
 have cW: ∀c,av vM c->c<h0.n:=fun c L=>hM.sl.lt ok L;have cY: ∀c,av vO c->c<h0.n:=fun c L=>hO.sl.lt ok L;have bq: ∀c,av vN c->c<h0.n:=fun c L=>hN.sl.lt ok L;have bh: ∀{N:Hp},Mo (· ∈[D,A]) hC0 N->aX N _ (ptrTo P) u:=fun f=>hp.mo f (fun c Y=>by simp only [Xk,Xf,or_false]at Y;omega);simp only [BZ,b_andB2 (show a<256 by omega),d1,S.ld (b:=A) (o:=3) m2 rfl,seval];refine tq (fun s h'=> ∃pt T,St (· ∈[D,A]) hC0 h' [(F,.row [ptrTo P,pt,.pointer none,.pointer none] 1),(D,.row [.int .i64 u.nodes,vx,vy,va] 1),(A,.row [vB,vO,vM,.int .u8 (a:Nat),vN,q5,q6,q7] 1)] []/\TabY h' F (a/4%2=0) pt u T/\T.isSome=decide (a%2=1)/\s 1=ptrTo A/\s 4=ptrTo D/\s 5=ptrTo P/\s 7=ptrTo F) ?_ ?_ ?_
 . intro a0;have c2:(u.nodes:Int)≠0:=(by omega);have e16:au .u8 ((a:Int).tdiv 16)=((a/16:Nat):Int):=(by rw [XX (by omega),show(a:Int)/16=((a/16:Nat):Int) by omega];exact tX rfl (by simp only [pw];omega));have c4:au .i64 ((a/16:Nat):Int)=((a/16:Nat):Int):=(by rw [wrap64]<;>omega);have b5:((a/16:Nat):Int).tmod (u.nodes:Int)=((a/16%u.nodes:Nat):Int):=(by rw [Xb (by omega)];exact(Xu _ _).symm);have em:a/16%u.nodes<u.nodes:=XN _ (by omega);simp only [BZ,jy,cU,ju,mS (n:=16) (by decide),e16,c4,jO c2,b5,S.ld (b:=A) (o:=3) m2 rfl,S.ld (b:=D) (o:=0) m1 rfl,seval];generalize en:((a/16%u.nodes:Nat):Int)=x0;have bo:0<=x0/\x0<u.nodes:=(by omega);refine ae (ce (by exact Tryz.t41.1) (by exact Xp) (by decide) (by rfl)) S ?_;clear S;intro h bt S ed;simp only [LC,bJ,cq,ag,Xq,Xl,Xo,Xx,seval]at S;simp only [BZ,seval];refine rD (fun s h'=> ∃(X:Value) (l:List Int) (G:List GL),St (· ∈[D,A]) hC0 h' [(bt,.row [.int .i64 x0] 1),(F,.row [ptrTo P,.pointer none,.pointer none,.pointer none] 1),(D,.row [.int .i64 u.nodes,vx,vy,va] 1),(A,.row [vB,vO,vM,.int .u8 (a:Nat),vN,q5,q6,q7] 1)] G/\((G=[]/\X=.slice (some ⟨bt,0,none⟩) 1 1/\l=[x0])\/G=[(X,1,ints l)])/\iT u.nodes l/\1<=l.length/\l.length<=4/\s 1=ptrTo A/\s 4=ptrTo D/\s 5=ptrTo P/\s 7=ptrTo F/\s 8=X)
    (fun(i:Nat) s h'=>i<=ms.length/\i<=3/\ ∃(X:Value) (l:List Int) (G:List GL),St (· ∈[D,A]) hC0 h' [(bt,.row [.int .i64 x0] 1),(F,.row [ptrTo P,.pointer none,.pointer none,.pointer none] 1),(D,.row [.int .i64 u.nodes,vx,vy,va] 1),(A,.row [vB,vO,vM,.int .u8 (a:Nat),vN,q5,q6,q7] 1)] G/\((G=[]/\X=.slice (some ⟨bt,0,none⟩) 1 1/\l=[x0])\/G=[(X,1,ints l)])/\iT u.nodes l/\1<=l.length/\l.length<=i+1/\s 1=ptrTo A/\s 4=ptrTo D/\s 5=ptrTo P/\s 7=ptrTo F/\s 8=X/\s 9=.int .i64 i) (fun i=>ms.length-i) ?_ ?_ 0 ⟨Xi _,Xi _,_,[x0],[],S,.inl ⟨rfl,rfl,rfl⟩,(mayL_nil _).push (by simp) bo.1 bo.2 (by simp),XH _,by simp,by simp [aD,an]⟩
   . clear S;intro i ih s h' ⟨V,hi3,X,l,G,S,hG,hl,hl0,hli,E,H,J,r7,r8,r9⟩;have b6:=(hM.sl.gr ax).mo S.fr (fun c L=>nb c (cW c L));have ay: ∀(n:Nat) (d:List Deferred) (rc:Option (Value×Bool)) (al:Nat->Value),al 1=ptrTo A->al 4=ptrTo D->al 5=ptrTo P->al 7=ptrTo F->al 8=X->JP n d rc (fun s h'=> ∃(X:Value) (l:List Int) (G:List GL),St (· ∈[D,A]) hC0 h' [(bt,.row [.int .i64 x0] 1),(F,.row [ptrTo P,.pointer none,.pointer none,.pointer none] 1),(D,.row [.int .i64 u.nodes,vx,vy,va] 1),(A,.row [vB,vO,vM,.int .u8 (a:Nat),vN,q5,q6,q7] 1)] G/\((G=[]/\X=.slice (some ⟨bt,0,none⟩) 1 1/\l=[x0])\/G=[(X,1,ints l)])/\iT u.nodes l/\1<=l.length/\l.length<=4/\s 1=ptrTo A/\s 4=ptrTo D/\s 5=ptrTo P/\s 7=ptrTo F/\s 8=X) .normal (LL n al d rc) h':=fun n d rc al e1 e4 e5 e7 e8=>dU ⟨X,l,G,S,hG,hl,hl0,by omega,e1,e4,e5,e7,e8⟩;have sR:az h' 1 (encI .i64) X l:=by
      rcases hG with⟨_,rfl,rfl⟩|rfl
      . exact .inr ⟨bt,0,none,1,rfl,XH _,S.lds (b:=bt) (o:=0) (n:=1*1) m0 (lbt rfl)⟩
      . exact(S.gown _ m0).1.sl rfl (fun _=>rfl) (by decide)
     by_cases hlt:i<ms.length
     . by_cases h3:i<3
       . have c3:(i:Int)<3:=(by omega);obtain⟨c,o,a1,bi⟩:=b6.ix (kd:=.i64) (bV .u8) hlt;have hx:=cr _ (XB hlt);obtain⟨x,ex⟩: ∃x:Nat,ms[i]=x:=⟨ms[i].toNat,by omega⟩;rw [ex]at bi hx;have nz:(u.nodes:Int)≠0:=(by omega);have wc:au .i64 (x:Int)=(x:Int):=(by rw [wrap64]<;>omega);have tm:(x:Int).tmod (u.nodes:Int)=((x%u.nodes:Nat):Int):=(by rw [Xb (by omega)];exact(Xu _ _).symm);have af:x%u.nodes<u.nodes:=XN _ (by omega);have w:au .i64 ((i:Int)+1)=((i+1:Nat):Int):=(by rw [wrap64]<;>omega);simp only [BZ,E,r9,hM.sl.lenq,aG,hlt,c3,S.ld (b:=A) (o:=2) m3 rfl,seval];refine ar (aw rfl) (q:=0) (ps:=[]) (by kernel_rfl) ?_;simp only [BZ,jy,cU,ju,cls,E,H,r9,a1,bi,encI,wc,jO nz,tm,S.ld (b:=D) (o:=0) m2 rfl,S.ld (b:=A) (o:=2) m3 rfl,seval];generalize x%u.nodes=v at af;clear b6;refine bj (fun(k:Nat) s N=>k<=l.length/\N=h'/\s 1=ptrTo A/\s 4=ptrTo D/\s 5=ptrTo P/\s 7=ptrTo F/\s 8=X/\s 9=.int .i64 i/\s 10=.int .i64 v/\s 11=.bool (decide ((v:Int)∈l.take k))/\s 12=.int .i64 k) (fun k=>l.length-k) ?_ 0 _ _ ⟨Xi _,rfl,by simp [aD,E,an,H,J,r7,r8,r9]⟩;clear E H J r7 r8 r9;rintro k b8 s N ⟨hk,rfl,E,H,J,r7,r8,r9,bk,ac,bl⟩;have wk:au .i64 ((k:Int)+1)=((k+1:Nat):Int):=(by rw [wrap64]<;>omega);by_cases aL:k<l.length
         . have tk:l.take (k+1)=l.take k++[l[k]]:=XP aL;by_cases Y:(v:Int)∈l.take k
           . rw [decide_eq_true Y]at ac;have c5:(v:Int)∈l.take (k+1):=(by rw [tk];exact zO _ Y);simp only [BZ,r8,ac,bl,sR.lenq,aG,aL,wk,seval];exact b8 (k+1) _ _ (by omega) ⟨by omega,rfl,by simp [aD,E,an,H,J,r7,r8,r9,bk,c5]⟩
           . rw [decide_eq_false Y]at ac;obtain⟨c1,o1,i1,y1⟩:=sR.ix (kd:=.i64) (bV .i64) aL;have m2:decide (l[k]=(v:Int))=decide ((v:Int)∈l.take (k+1)):=decide_eq_decide.2 ⟨fun he=>by rw [tk,he];exact Xh _ (List.mem_singleton.2 rfl),fun h=>by
              rw [tk]at h;rcases List.mem_append.1 h with h|h
              . exact absurd h Y
              . exact(List.mem_singleton.1 h).symm⟩
             simp only [BZ,r8,bk,ac,bl,sR.lenq,aG,aL,wk,i1,y1,encI,m2,seval];exact b8 (k+1) _ _ (by omega) ⟨by omega,rfl,by simp [aD,E,an,H,J,r7,r8,r9,bk]⟩
         . have ek:k=l.length:=(by omega);subst ek;rw [List.take_length]at ac;by_cases Y:(v:Int)∈l
           . rw [decide_eq_true Y]at ac;simp only [BZ,r8,r9,ac,bl,sR.lenq,aG,aL,w,seval];exact ih (i+1) _ _ (by omega) ⟨by omega,by omega,X,l,G,S,hG,hl,hl0,by omega,by simp [aD,E,an,H,J,r7,r8]⟩
           . rw [decide_eq_false Y]at ac;simp only [BZ,r8,r9,bk,ac,bl,sR.lenq,aG,aL,seval];refine ae (ce (by exact Tryz.t41.1) (by exact Xp) (by decide) (by rfl)) S ?_;clear S;intro h bu S ee;simp only [LC,bJ,cq,ag,Xq,Xl,Xo,Xx,seval]at S;simp only [BZ,seval];have br:aR h 1 (.slice (some ⟨bu,0,none⟩) 1 1)=some (1,ints [(v:Int)]):=(by simp only [aR];rw [S.lds (b:=bu) (o:=0) (n:=1*1) m0 (lbt rfl)];rfl);replace S:=S.drop1;have b9: ∃h3 v',dM zM h [41,41] X (.slice (some ⟨bu,0,none⟩) 1 1)=some (h3,v')/\St (· ∈[D,A]) hC0 h3 [(bt,.row [.int .i64 x0] 1),(F,.row [ptrTo P,.pointer none,.pointer none,.pointer none] 1),(D,.row [.int .i64 u.nodes,vx,vy,va] 1),(A,.row [vB,vO,vM,.int .u8 (a:Nat),vN,q5,q6,q7] 1)] [(v',1,ints (l++[(v:Int)]))]:=by
              rcases hG with⟨rfl,rfl,rfl⟩|rfl
              . rw [iH];exact St.growB S (b:=bt) (len:=1) (m:=1) (new:=ints [(v:Int)]) (S.row m0) rfl Tryz.t41.1 Xp (by decide) Tryz.t41.2.2.2.2.2 br rfl (by decide) (by decide) (by rw [cD];exact lbt rfl)
              . rw [iH];exact S.grow (j:=0) (m:=1) (new:=ints [(v:Int)]) rfl Tryz.t41.1 Xp (by decide) Tryz.t41.2.2.2.2.2 br rfl (by decide) rfl (by rw [cD,cD];simp;omega)
             refine dQ b9 ?_;clear S br hG b9 sR ay;rintro h c6 S;simp only [BZ,r9,w,seval];exact ih (i+1) _ _ (by omega) ⟨by omega,by omega,c6,l++[(v:Int)],_,S,.inr rfl,hl.push (by omega) (by omega) (by omega) Y,by simp,by simp;omega,by simp [aD,E,an,H,J,r7]⟩
       . have c3: ¬(i:Int)<3:=(by omega);simp only [BZ,E,r9,hM.sl.lenq,aG,hlt,c3,S.ld (b:=A) (o:=2) m3 rfl,seval];exact ay _ _ _ _ (by simp [aD,E,an]) (by simp [aD,H,an]) (by simp [aD,J,an]) (by simp [aD,r7,an]) (by simp [aD,r8])
     . simp only [BZ,E,r9,hM.sl.lenq,aG,hlt,S.ld (b:=A) (o:=2) m3 rfl,seval];exact ay _ _ _ _ (by simp [aD,E,an]) (by simp [aD,H,an]) (by simp [aD,J,an]) (by simp [aD,r7,an]) (by simp [aD,r8])
   clear S;intro s h' ⟨X,l,G,S,hG,hl,hl0,hl4,E,H,J,r7,r8⟩;have sR: ∀{x:Hp} {L':List (Nat×Ob)} {G':List GL},St (· ∈[D,A]) hC0 x L' G'->(bt,Ob.row [.int .i64 x0] 1)∈L'->(∀p∈G,p∈G')->az x 1 (encI .i64) X l:=fun {x L' G'} U hL da=>by
    rcases hG with⟨_,rfl,rfl⟩|rfl
    . exact .inr ⟨bt,0,none,1,rfl,XH _,U.lds (b:=bt) (o:=0) (n:=1*1) hL (lbt rfl)⟩
    . exact ig.sl (xs:=l) (enc:=encI .i64) (U.gown (X,1,ints l) (da _ m0)).1 rfl (fun _=>rfl) (by decide)
   have l1:1<=l.length:=hl0;have fR:Fl X:=(sR S m0 (fun p hp=>hp)).fl;have k7: ∀{x:Hp} {L':List (Nat×Ob)} {G':List GL} {o:Ob},St (· ∈[D,A]) hC0 x L' G'->(F,o)∈L'->F<x.n:=fun U Y=>(U.own _ Y).2.lt U.ok;have kb: ∀c,c∈[D,A]->c<=F:=fun c Y=>(by simp only [Xk,Xf,or_false]at Y;omega);simp only [BZ,J,r7,r8,seval];refine step_ret (tabOf_ok S.ok ad (bh S.fr) (sR S m0 (fun p hp=>hp)) (by omega)) ?_;rintro pt h ⟨g,hT⟩;replace hT:=(hT.resolve_left (fun h=>h.1 hl)).2;have kn:=k7 S m1;replace S:=S.call g;have own: ∀i,i<l.length->iw u.nodes (toR u l i)/\iw u.nodes (frR u l i):=fun i V=>ownRows S.ok ad (bh S.fr) hl V;have tY:TabY h F (a/4%2=0) pt u (some (tabL l (toR u l) (frR u l))):=⟨⟨_,kn,tabL_at hT⟩,tabL_L hl (by omega) l1 (fun i V=>(own i V).1) (fun i V=>(own i V).2),hl4,hl,fun _ i V=>⟨lJ V,lJ V⟩⟩;have bv:=tY.fl;simp only [BZ,seval];refine aE (aF S (i:=1) rfl Tryz.t32.2.2.1 bv (Xg (lbt rfl)) ono) ?_;clear S hT;rintro h ⟨S,Z⟩;simp only [LC,ag,lay,XJ,XK,seval]at S;replace tY:=tY.mo Z (fun b e=>Nat.le_of_eq e);have db: ∃b,pt=ptrTo b:=(by obtain⟨⟨m,_,x⟩,_⟩:=tY;obtain⟨b,_,_,_,e,_⟩:=x.ex;exact⟨b,e⟩);obtain⟨bT,rfl⟩:=db;by_cases h4:a/4%2=1/\0<W.length
   . obtain⟨h4,hz⟩:=h4;have cN:(0<(W.length:Int))=True:=eq_true (by omega);have e4:decide (a/4%2=1)=true:=decide_eq_true h4;simp only [BZ,E,r7,a4,d4,e4,hN.sl.lenq,cN,S.ld (b:=A) (o:=3) m3 rfl,S.ld (b:=A) (o:=4) m3 rfl,S.ld (b:=F) (o:=1) m1 rfl,seval];obtain⟨⟨mT,_,tA⟩,tL,_⟩:=tY;have ef: ∀i,i<l.length->iw u.nodes (toR u l i)/\iw u.nodes (frR u l i):=own;replace tA:TabAt _ mT (ptrTo bT) u.nodes l (toR u l) (frR u l):=tA.congr (fun i V=>lJ V) (fun i V=>lJ V);obtain⟨nB,bw⟩: ∃n,n=h.n:=⟨_,rfl⟩;have kS: ∀c∈keys [(bt,.row [.int .i64 x0] 1),(F,.row [ptrTo P,ptrTo bT,.pointer none,.pointer none] 1),(D,.row [.int .i64 u.nodes,vx,vy,va] 1),(A,.row [vB,vO,vM,.int .u8 (a:Nat),vN,q5,q6,q7] 1)] G,c<nB:=fun c L=>(by rw [bw];exact S.key_lt L);have gN:hC0.n<=nB:=(by rw [bw];exact S.fr.n);refine step_ret (Ed S.ok tA (by omega) (fun i V=>by rw [(own i V).1.1];omega) (fun i V=>by rw [(own i V).2.1];omega)) ?_;rintro _ h ⟨g,vT,vF,kk,rfl,DT,DF,y1,y2⟩;rw [<-bw]at DT y1;obtain⟨nE,dc⟩: ∃n,n=h.n:=⟨_,rfl⟩;rw [<-dc]at DF y2;replace S:=S.call g;obtain⟨ta,tn,tc,eT⟩:=DT.form;obtain⟨fa,fn,fc,eF⟩:=DF.form;simp only [BZ,seval];refine bj (fun(i:Nat) s N=>i<=l.length/\ ∃(R Q:Nat->List Int),St (· ∈[D,A]) hC0 N [(bt,.row [.int .i64 x0] 1),(F,.row [ptrTo P,ptrTo bT,.pointer none,.pointer none] 1),(D,.row [.int .i64 u.nodes,vx,vy,va] 1),(A,.row [vB,vO,vM,.int .u8 (a:Nat),vN,q5,q6,q7] 1)] G/\LLD N nB kk vT l.length R/\LLD N kk nE vF l.length Q/\(∀i,i<l.length->iw u.nodes (R i)/\iw u.nodes (Q i))/\s 1=ptrTo A/\s 4=ptrTo D/\s 5=ptrTo P/\s 7=ptrTo F/\s 8=X/\s 13=vT/\s 14=vF/\s 15=.int .i64 i) (fun i=>l.length-i) ?_ 0 _ _ ⟨Xi _,_,_,S,DT,DF,own,by simp [aD,E,an,H,J,r7,r8]⟩;clear S DT DF E H J r7 r8 g Z;intro i ih s N ⟨V,R,Q,S,DT,DF,hRQ,E,H,J,r7,r8,r13,r14,r15⟩;have w:au .i64 ((i:Int)+1)=((i+1:Nat):Int):=(by rw [wrap64]<;>omega);by_cases hlt:i<l.length
     . simp only [BZ,r8,r15,(sR S m0 (fun p hp=>hp)).lenq,aG,hlt,seval];refine bj (fun(v:Nat) s N=>v<=u.nodes/\ ∃(R Q:Nat->List Int),St (· ∈[D,A]) hC0 N [(bt,.row [.int .i64 x0] 1),(F,.row [ptrTo P,ptrTo bT,.pointer none,.pointer none] 1),(D,.row [.int .i64 u.nodes,vx,vy,va] 1),(A,.row [vB,vO,vM,.int .u8 (a:Nat),vN,q5,q6,q7] 1)] G/\LLD N nB kk vT l.length R/\LLD N kk nE vF l.length Q/\(∀i,i<l.length->iw u.nodes (R i)/\iw u.nodes (Q i))/\s 1=ptrTo A/\s 4=ptrTo D/\s 5=ptrTo P/\s 7=ptrTo F/\s 8=X/\s 13=vT/\s 14=vF/\s 15=.int .i64 i/\s 16=.int .i64 v) (fun v=>u.nodes-v) ?_ 0 _ _ ⟨Xi _,_,_,S,DT,DF,hRQ,by simp [aD,E,an,H,J,r7,r8,r13,r14,r15]⟩;clear S DT DF hRQ E H J r7 r8 r13 r14 r15 R Q;intro v dd s N ⟨hv,R,Q,S,DT,DF,hRQ,E,H,J,r7,r8,r13,r14,r15,r16⟩;have wv:au .i64 ((v:Int)+1)=((v+1:Nat):Int):=(by rw [wrap64]<;>omega);by_cases ca:v<u.nodes
       . have a3:=(hN.sl.gr ax).mo S.fr (fun c L=>nb c (bq c L));have c0:(0:Int)<(W.length:Int):=(by omega);have cc:(W.length:Int)≠0:=(by omega);have w1:au .i64 ((i:Int)+(v:Int))=((i+v:Nat):Int):=(by rw [wrap64]<;>omega);have w2:au .i64 (3*(i:Int))=((3*i:Nat):Int):=(by rw [wrap64]<;>omega);have w4:au .i64 (2*(v:Int))=((2*v:Nat):Int):=(by rw [wrap64]<;>omega);have w3:au .i64 (((3*i:Nat):Int)+((2*v:Nat):Int))=((3*i+2*v:Nat):Int):=(by rw [wrap64]<;>omega);have de:((i+v:Nat):Int).tmod (W.length:Int)=(((i+v)%W.length:Nat):Int):=(by rw [Xb (Int.natCast_nonneg _)];exact(Xu _ _).symm);have dj:((3*i+2*v:Nat):Int).tmod (W.length:Int)=(((3*i+2*v)%W.length:Nat):Int):=(by rw [Xb (Int.natCast_nonneg _)];exact(Xu _ _).symm);simp only [BZ,H,r16,aG,ca,S.ld (b:=D) (o:=0) m2 rfl,seval];refine ar (aw rfl) (q:=0) (ps:=[]) (by kernel_rfl) ?_;have bx:R i≠ []:=fun e=>(by have:=(hRQ i hlt).1;rw [e]at this;have:=this.1;simp at this;omega);obtain⟨c,⟨q,o,e1,e2⟩,a5,dm,dn,a6⟩:=DT.at hlt bx;have a7:=(hRQ i hlt).1.1;have iv:m9 (some 1) (.slice (some ⟨c,0,some 1⟩) (R i).length (R i).length) (.int .i64 (v:Nat))=some (.pointer (some ⟨c,v,none⟩)):=(by rw [oV,ia (by omega),uz,Xl,Xo]);obtain⟨cn,on,ba,ai⟩:=a3.ix (kd:=.i64) (bV .i64) (XN (i+v) (show 0<W.length by omega));generalize W[(i+v)%W.length]'(XN (i+v) (by omega))=z at ai;simp only [BZ,cls,E,r13,r15,r16,hN.sl.lenq,jO cc,w1,de,e1,e2,ba,ai,encI,iv,S.ld (b:=A) (o:=4) m3 rfl,seval];have T:=St.init1 S.ok (o:=.row (ints (R i)) 1) a5;refine cM (aF T (i:=0) rfl Tryz.t2.2.2.1 aU (by rw [cD];omega) ono) ?_;clear T;rintro h3 ⟨T,Z⟩;simp only [List.set_cons_zero,ints_set]at T;have kc: ∀b∈keys [(bt,.row [.int .i64 x0] 1),(F,.row [ptrTo P,ptrTo bT,.pointer none,.pointer none] 1),(D,.row [.int .i64 u.nodes,vx,vy,va] 1),(A,.row [vB,vO,vM,.int .u8 (a:Nat),vN,q5,q6,q7] 1)] G,b≠c:=fun b hb e=>(by have:=kS b hb;omega);replace S:=S.step Z (fun b e=>.inr (by have e:b=c:=e;omega)) (fun b hb e=>kc b hb e);have D1:=a6 _ _ Z (XS ..) (T.row m0);have D2:=DF.mo Z (fun b e=>by have e:b=c:=e;omega);have bb:iw u.nodes ((R i).set v (min (max z 0) 72057594037927936)):=⟨by rw [XS];exact a7,fun x hx=>by
          rcases XY hx with h|h
          . exact(hRQ i hlt).1.2 x h
          . omega⟩
         clear DT DF T a6 a5 e2;simp only [BZ,seval];have ds:=bb;have a3:=(hN.sl.gr ax).mo S.fr (fun c L=>nb c (bq c L));refine ar (aw rfl) (q:=0) (ps:=[]) (by kernel_rfl) ?_;have bx:Q i≠ []:=fun e=>(by have:=(hRQ i hlt).2;rw [e]at this;have:=this.1;simp at this;omega);obtain⟨c,⟨q,o,e1,e2⟩,a5,dm,dn,a6⟩:=D2.at hlt bx;have a7:=(hRQ i hlt).2.1;have iv:m9 (some 1) (.slice (some ⟨c,0,some 1⟩) (Q i).length (Q i).length) (.int .i64 (v:Nat))=some (.pointer (some ⟨c,v,none⟩)):=(by rw [oV,ia (by omega),uz,Xl,Xo]);obtain⟨cn,on,ba,ai⟩:=a3.ix (kd:=.i64) (bV .i64) (XN (3*i+2*v) (show 0<W.length by omega));generalize W[(3*i+2*v)%W.length]'(XN (3*i+2*v) (by omega))=z at ai;simp only [BZ,cls,E,r14,r15,r16,hN.sl.lenq,jO cc,w2,w4,w3,dj,e1,e2,ba,ai,encI,iv,S.ld (b:=A) (o:=4) m3 rfl,seval];have T:=St.init1 S.ok (o:=.row (ints (Q i)) 1) a5;refine cM (aF T (i:=0) rfl Tryz.t2.2.2.1 aU (by rw [cD];omega) ono) ?_;clear T;rintro h3 ⟨T,Z⟩;simp only [List.set_cons_zero,ints_set]at T;have kc: ∀b∈keys [(bt,.row [.int .i64 x0] 1),(F,.row [ptrTo P,ptrTo bT,.pointer none,.pointer none] 1),(D,.row [.int .i64 u.nodes,vx,vy,va] 1),(A,.row [vB,vO,vM,.int .u8 (a:Nat),vN,q5,q6,q7] 1)] G,b≠c:=fun b hb e=>(by have:=kS b hb;omega);replace S:=S.step Z (fun b e=>.inr (by have e:b=c:=e;omega)) (fun b hb e=>kc b hb e);have D3:=a6 _ _ Z (XS ..) (T.row m0);have D4:=D1.mo Z (fun b e=>by have e:b=c:=e;omega);have bb:iw u.nodes ((Q i).set v (min (max z 0) 72057594037927936)):=⟨by rw [XS];exact a7,fun x hx=>by
          rcases XY hx with h|h
          . exact(hRQ i hlt).2.2 x h
          . omega⟩
         clear D2 D1 T a6 a5 e2;simp only [BZ,r16,wv,seval];exact dd (v+1) _ _ (by omega) ⟨by omega,_,_,S,D4,D3,fun j hj=>⟨by
          by_cases ej:j=i
          . subst ej;simp only [if_true];exact ds
          . simp only [if_neg ej];exact(hRQ j hj).1,by
          by_cases ej:j=i
          . subst ej;simp only [if_true];exact bb
          . simp only [if_neg ej];exact(hRQ j hj).2⟩,by simp [aD,E,an,H,J,r7,r8,r13,r14,r15]⟩
       . simp only [BZ,H,r7,r8,r13,r14,r15,r16,aG,ca,w,S.ld (b:=D) (o:=0) m2 rfl,seval];exact ih (i+1) _ _ (by omega) ⟨by omega,R,Q,S,DT,DF,hRQ,by simp [aD,E,an,H,J,r7,r8,r13,r14]⟩
     . simp only [BZ,H,r7,r8,r13,r14,r15,(sR S m0 (fun p hp=>hp)).lenq,aG,hlt,S.ld (b:=D) (o:=0) m2 rfl,seval];refine step_ret (make_ok S.ok (sR S m0 (fun p hp=>hp)) DT.ll DF.ll (by omega) (by omega) hl (fun i V=>(hRQ i V).1) (fun i V=>(hRQ i V).2)) ?_;rintro pt h ⟨g,hT⟩;have kn:=k7 S m1;replace S:=S.call g;have tY:TabY h F (a/4%2=0) pt u (some (tabL l R Q)):=⟨⟨_,kn,tabL_at hT⟩,tabL_L hl (by omega) l1 (fun i V=>(hRQ i V).1) (fun i V=>(hRQ i V).2),hl4,hl,fun h=>absurd h (by omega)⟩;have bv:=tY.fl;simp only [BZ,seval];refine aE (aF S (i:=1) rfl Tryz.t32.2.2.1 bv (Xg (lbt rfl)) ono) ?_;clear S hT;rintro h ⟨S,Z⟩;simp only [LC,ag,lay,XJ,XK,seval]at S;replace tY:=tY.mo Z (fun b e=>Nat.le_of_eq e);simp only [BZ];refine dU ⟨_,_,(?_ :St (· ∈[D,A]) hC0 _ _ []),tY,?_,by simp [aD,E,an,H,J,r7]⟩
       . exact S.sub (XO _ _) (XQ _)
       . rw [a0];rfl
   . by_cases ch:a/4%2=1
     . have e4:decide (a/4%2=1)=true:=decide_eq_true ch;have cN:(0<(W.length:Int))=False:=eq_false (by omega);simp only [BZ,E,r7,a4,d4,e4,hN.sl.lenq,cN,S.ld (b:=A) (o:=3) m3 rfl,S.ld (b:=A) (o:=4) m3 rfl,S.ld (b:=F) (o:=1) m1 rfl,seval];exact dU ⟨_,_,S.sub (XO _ _) (XQ _),tY,by rw [a0];rfl,by simp [aD,E,an,H,J,r7]⟩
     . have e4:decide (a/4%2=1)=false:=decide_eq_false ch;simp only [BZ,E,a4,d4,e4,S.ld (b:=A) (o:=3) m3 rfl,seval];exact dU ⟨_,_,S.sub (XO _ _) (XQ _),tY,by rw [a0];rfl,by simp [aD,E,an,H,J,r7]⟩
 . intro a0;simp only [BZ];exact dU ⟨_,none,S,rfl,by rw [a0];rfl,by simp [aD,an]⟩
 clear S;intro s hA ⟨pt,T,S,tY,hTs,E,H,J,r7⟩;simp only [BZ,E,a2,d2,S.ld (b:=A) (o:=3) m2 rfl,seval];refine tq (fun s h'=> ∃pc pf C,St (· ∈[D,A]) hC0 h' [(F,.row [ptrTo P,pt,pc,pf] 1),(D,.row [.int .i64 u.nodes,vx,vy,va] 1),(A,.row [vB,vO,vM,.int .u8 (a:Nat),vN,q5,q6,q7] 1)] []/\TabY h' F (a/4%2=0) pt u T/\CelY h' (a/8%2=0) pc pf u C/\C.isSome=decide (a/2%2=1)/\s 1=ptrTo A/\s 4=ptrTo D/\s 5=ptrTo P/\s 7=ptrTo F) ?_ ?_ ?_
 . intro bc;simp only [BZ];have S9:=S;replace S:=S.base;simp only [LC,keys,Xm,Xr,Xe]at S;have hq: ∀{N:Hp},Mo (· ∈[F,D,A]) hA N->Mo (· ∈[D,A]) hC0 N:=fun f=>S9.fr.trans f (fun c L=>by
    rcases List.mem_cons.1 L with rfl|L
    . exact .inr n7
    . exact .inl L)
   have kb: ∀c,c∈[F,D,A]->c<=F:=fun c Y=>(by simp only [Xk,Xf,or_false]at Y;omega);replace S:=S.nilG (k:=1);refine bj (fun(i:Nat) s h=>i<=u.nodes/\ ∃vQ,St (· ∈[F,D,A]) hA h [(F,.row [ptrTo P,pt,.pointer none,.pointer none] 1),(D,.row [.int .i64 u.nodes,vx,vy,va] 1),(A,.row [vB,vO,vM,.int .u8 (a:Nat),vN,q5,q6,q7] 1)] [(vQ,1,ints ((XM i).map (sY O)))]/\s 1=ptrTo A/\s 4=ptrTo D/\s 5=ptrTo P/\s 7=ptrTo F/\s 17=vQ/\s 18=.int .i64 i) (fun i=>u.nodes-i) ?_ 0 _ _ ⟨Xi _,_,S,by simp [aD,E,an,H,J,r7]⟩;clear S;clear E H J r7;intro i ih s h ⟨V,vQ,S,E,H,J,r7,r17,r18⟩;have w:au .i64 ((i:Int)+1)=((i+1:Nat):Int):=(by rw [wrap64]<;>omega);have dt:=(hO.sl.gr ax).mo (hq S.fr) (fun c L=>nb c (cY c L));by_cases hlt:i<u.nodes
   . by_cases cj:O.length=0
     . have c0: ¬(0:Int)<(O.length:Int):=(by omega);simp only [BZ,E,H,r17,r18,aG,hlt,hO.sl.lenq,c0,S.ld (b:=D) (o:=0) m1 rfl,S.ld (b:=A) (o:=1) m2 rfl,seval];refine ae (ce (by exact Tryz.t41.1) (by exact Xp) (by decide) (by rfl)) S ?_;clear S;intro h bs S ck;simp only [LC,bJ,cq,ag,Xq,Xl,Xo,Xx,seval]at S;simp only [BZ,seval];refine dQ (S.grow (j:=0) (m:=1) (new:=ints [(0:Int)]) rfl Tryz.t41.1 Xp (by decide) Tryz.t41.2.2.2.2.2 (by simp only [aR];rw [S.lds (b:=bs) (o:=0) (n:=1*1) m0 (lbt rfl)];rfl) rfl (by decide) rfl (by rw [cD,cD];simp;omega)) ?_;clear S;rintro h bE S;simp only [LC]at S;replace S:=S.drop1;rw [<-iH]at S;simp only [BZ,r18,w,seval];refine ih (i+1) _ _ (by omega) ⟨by omega,bE,?_,by simp [aD,E,an,H,J,r7]⟩;rw [List.range_succ,List.map_append,List.map_singleton,show sY O i=(0:Int)from by unfold sY;rw [if_pos cj]];exact S
     . have c0:(0:Int)<(O.length:Int):=(by omega);have af:i%O.length<O.length:=XN _ (by omega);have tm:(i:Int).tmod (O.length:Int)=((i%O.length:Nat):Int):=(by rw [Xb (by omega)];exact(Xu _ _).symm);obtain⟨c,o,a1,bi⟩:=dt.ix (kd:=.i64) (bV _) af;have cz:(O.length:Int)≠0:=(by omega);have hx:=cO _ (XB af);have t4:(O[i%O.length]).tmod 4=O[i%O.length]%4:=Xb hx.1;have wc:au .i64 ((O[i%O.length]).tmod 4)=(O[i%O.length]).tmod 4:=(by rw [wrap64]<;>omega);simp only [BZ,E,H,r18,aG,hlt,hO.sl.lenq,c0,S.ld (b:=D) (o:=0) m1 rfl,S.ld (b:=A) (o:=1) m2 rfl,seval];refine ar (aw rfl) (q:=0) (ps:=[]) (by kernel_rfl) ?_;simp only [BZ,jy,cU,ju,cls,E,r17,r18,hO.sl.lenq,jO cz,tm,a1,bi,encI,jO (n:=4) (by decide),wc,S.ld (b:=A) (o:=1) m2 rfl,seval];refine ae (ce (by exact Tryz.t41.1) (by exact Xp) (by decide) (by rfl)) S ?_;clear S;intro h bs S ck;simp only [LC,bJ,cq,ag,Xq,Xl,Xo,Xx,seval]at S;simp only [BZ,seval];refine dQ (S.grow (j:=0) (m:=1) (new:=ints [(O[i%O.length]).tmod 4]) rfl Tryz.t41.1 Xp (by decide) Tryz.t41.2.2.2.2.2 (by simp only [aR];rw [S.lds (b:=bs) (o:=0) (n:=1*1) m0 (lbt rfl)];rfl) rfl (by decide) rfl (by rw [cD,cD];simp;omega)) ?_;clear S;rintro h bE S;simp only [LC]at S;replace S:=S.drop1;rw [<-iH]at S;simp only [BZ,r18,w,seval];refine ih (i+1) _ _ (by omega) ⟨by omega,bE,?_,by simp [aD,E,an,H,J,r7]⟩;rw [List.range_succ,List.map_append,List.map_singleton,show sY O i=(O[i%O.length]).tmod 4 from by unfold sY;rw [if_neg cj];simp [Xd,af]];exact S
   . have dv :i=u.nodes:=(by omega);simp only [BZ,H,r7,r17,r18,aG,hlt,S.ld (b:=D) (o:=0) m1 rfl,seval];generalize hL:(XM i).map (sY O)=Ls at S;have lL:Ls.length=u.nodes:=(by rw [<-hL];simp [dv]);have bL:=lmax_bd (K:=((0+Ls.length:Nat):Int)) (by omega) (norm_bd [] Ls);have nl:=Cs [] Ls;have bP: ¬yi (norm [] Ls):=by
      rintro(h|h|h)
      . rw [h]at nl;simp at nl;omega
      . exact h (norm_idem [] Ls)
      . omega
     have sl:az h 1 (encI .i64) vQ Ls:=(S.gown _ m0).1.sl rfl (fun _=>rfl) (by decide);refine step_ret (EI S.ok sl (by omega)) ?_;rintro v1 hP ⟨g1,s1,q1⟩;replace S:=S.call g1;simp only [BZ,seval];have k7:=S.key_lt (b:=F) (by simp [keys]);refine step_ret (Ek S.ok s1 (by omega) (by omega)) ?_;rintro v2 hR ⟨g2,dx⟩;obtain⟨_,be⟩:=dx.resolve_left (fun h=>bP h.1);replace S:=S.call g2;obtain⟨cb,dy⟩: ∃b,v2=ptrTo b:=(by obtain⟨b,_,e,_⟩:=be;exact⟨b,e⟩);subst dy;have dF:=norm_bd [] Ls;have lm:(norm [] Ls).length=u.nodes:=(by omega);have mz: ∀x∈norm [] Ls,0<=x/\x<256:=fun x hx=>(by have:=dF x hx;simp only [List.length_nil]at this;omega);generalize norm [] Ls=m at be bL bP lm mz;have dO: ∃c:Nat->Nat,∀v,v<u.nodes->m.getD v 0=(c v:Int):=⟨fun v=>(m.getD v 0).toNat,fun v hv=>by
      have cl:v<m.length:=(by omega);have:=(mz _ (XB cl)).1;have e:m.getD v 0=m[v]:=(by rw [Xd,XI cl,Xj]);show m.getD v 0=((m.getD v 0).toNat:Int);rw [e];omega⟩
     obtain⟨cf,cm⟩:=dO;obtain⟨Mc,bX⟩: ∃M:Nat,gP m+1=(M:Int):=⟨(gP m+1).toNat,by omega⟩;replace S:St (· ∈[F,D,A]) hA hR [(F,.row [ptrTo P,pt,.pointer none,.pointer none] 1),(D,.row [.int .i64 u.nodes,vx,vy,va] 1),(A,.row [vB,vO,vM,.int .u8 (a:Nat),vN,q5,q6,q7] 1)] []:=S.sub (List.Sublist.refl _) (XQ _);have S8:=S;have kz:F<hR.n:=(S8.own _ m0).2.lt S8.ok;replace S:=S.base;simp only [LC,keys,Xm,Xr,Xe]at S;have bY: ∀{N:Hp},Mo (· ∈[F,D,A]) hR N->Mo (· ∈[F,D,A]) hA N:=fun f=>S8.fr.trans f (fun c L=>.inl L);have bf: ∀{N:Hp},Mo (· ∈[F,D,A]) hR N->jU N _ (ptrTo cb) m:=fun f=>be.mo f (fun c L=>by have:=kb c L;omega);simp only [BZ,seval];refine aE (aF S (i:=0) rfl Tryz.t33.2.2.1 bH (Xg (lbt rfl)) ono) ?_;clear S;rintro h ⟨S,_⟩;simp only [LC,ag,lay,XJ,XK,seval]at S;simp only [BZ,J,r7,S.ld (b:=F) (o:=2) m0 rfl,seval];have kh:=S.fr.n;refine step_ret (ofB_ok S.ok ad (bh (hq (bY S.fr))) ⟨bf S.fr,lm,cm⟩ bX (by omega)) ?_;rintro _ h ⟨g6,fp,fb,Bt,rfl,nf,ep,cp,BN,oB⟩;replace S:=S.call g6;have tz:Tz u.arcs.length ((u.arcs.length+7)/8) Bt:=fun r i h1 N=>by
      cases hb:gQ Bt ((u.arcs.length+7)/8) r i with
      |false=>rfl| true=>
        rcases(oB r i N).1 hb with⟨_,h⟩|⟨_,h⟩
        . have:=zU h;omega
        . simp at h
     simp only [BZ,seval];refine aE (aF S (i:=0) rfl Tryz.t34.2.2.1 bH (Xg (lbt rfl)) ono) ?_;clear S;rintro h ⟨S,Z⟩;simp only [LC,ag,lay,XJ,XK,seval]at S;have bn:fG h fp fb Mc u.arcs.length ((u.arcs.length+7)/8) Bt:=⟨Z.has (o:=.row _ 1) BN.r (fun e=>by have e:fp=F:=e;omega),Z.has (o:=.row _ 1) BN.b (fun e=>by have e:fb=F:=e;omega),BN.lt⟩;have d0:=oB;clear BN Z oB;have ay: ∀{N:Hp} {B:Nat->Nat},Mo (· ∈[F,D,A]) hR N->fG N fp fb Mc u.arcs.length ((u.arcs.length+7)/8) B->Tz u.arcs.length ((u.arcs.length+7)/8) B->(a/8%2=0->B=Bt)->TabY N F (a/4%2=0) pt u T/\CelY N (a/8%2=0) (ptrTo cb) (ptrTo fp) u (some (m,byB (Mc*((u.arcs.length+7)/8)) B)):=fun f b z hb=>⟨tY.mo (bY f) kb,⟨_,fp,fb,Mc,_,_,bf f,lm,rfl,bX,b,rfl,mz,bP,rfl,z⟩,_,cf,cb,fp,fb,Mc,_,rfl,rfl,⟨bf f,lm,cm⟩,bX,by omega,b,fun h=>by rw [hb h];exact d0⟩;by_cases h8:a/8%2=1
     . have e8:decide (a/8%2=1)=true:=decide_eq_true h8;simp only [BZ];refine rD (fun s h'=> ∃B,St (· ∈[F,D,A]) hR h' [(F,.row [ptrTo P,pt,ptrTo cb,ptrTo fp] 1),(D,.row [.int .i64 u.nodes,vx,vy,va] 1),(A,.row [vB,vO,vM,.int .u8 (a:Nat),vN,q5,q6,q7] 1)] []/\fG h' fp fb Mc u.arcs.length ((u.arcs.length+7)/8) B/\Tz u.arcs.length ((u.arcs.length+7)/8) B/\s 1=ptrTo A/\s 4=ptrTo D/\s 5=ptrTo P/\s 7=ptrTo F)
        (fun(i:Nat) s h'=>i<=W.length/\i<=9/\ ∃B,St (· ∈[F,D,A]) hR h' [(F,.row [ptrTo P,pt,ptrTo cb,ptrTo fp] 1),(D,.row [.int .i64 u.nodes,vx,vy,va] 1),(A,.row [vB,vO,vM,.int .u8 (a:Nat),vN,q5,q6,q7] 1)] []/\fG h' fp fb Mc u.arcs.length ((u.arcs.length+7)/8) B/\Tz u.arcs.length ((u.arcs.length+7)/8) B/\s 1=ptrTo A/\s 4=ptrTo D/\s 5=ptrTo P/\s 7=ptrTo F/\s 20=.int .i64 i) (fun i=>W.length-i) ?_ ?_ 0 ⟨Xi _,Xi _,Bt,S,bn,tz,by simp [aD,E,an,H,J,r7]⟩
       . clear S bn tz ih E H J r7 r17 r18 w;intro i ih s N ⟨V,hi9,B,S,bm,tz,E,H,J,r7,ak⟩;have w:au .i64 ((i:Int)+1)=((i+1:Nat):Int):=(by rw [wrap64]<;>omega);by_cases hlt:i<W.length
         . by_cases h9:i<9
           . have c9:(i:Int)<9:=(by omega);have a3:=(hN.sl.gr ax).mo (hq (bY S.fr)) (fun c L=>nb c (bq c L));obtain⟨cn,on,ba,ai⟩:=a3.ix (kd:=.i64) (bV .i64) hlt;generalize W[i]=z at ai;have w5:au .i64 ((u64 z%4:Nat):Int)=((u64 z%4:Nat):Int):=(by rw [wrap64]<;>omega);have m5:((u64 z:Nat):Int).tmod 4=((u64 z%4:Nat):Int):=(by rw [Xb (by omega)];exact(Xu _ _).symm);have q5:au .u64 (((u64 z:Nat):Int).tdiv 4)=((u64 z/4:Nat):Int):=(by have:=u64_lt z;rw [XX (by omega),show((u64 z:Int)/4)=((u64 z/4:Nat):Int) by omega,tX rfl];simp only [pw];omega);have d3:((u64 z/4:Nat):Int).tmod 40=((u64 z/4%40:Nat):Int):=(by rw [Xb (by omega)];exact(Xu _ _).symm);have d5:au .i64 ((u64 z/4%40:Nat):Int)=((u64 z/4%40:Nat):Int):=(by rw [wrap64]<;>omega);simp only [BZ,E,ak,hN.sl.lenq,aG,hlt,c9,a8,d8,e8,S.ld (b:=A) (o:=4) m2 rfl,S.ld (b:=A) (o:=3) m2 rfl,seval];refine ar (aw rfl) (q:=0) (ps:=[]) (by kernel_rfl) ?_;simp only [BZ,jy,cU,ju,cls,E,r7,ak,ba,ai,encI,wrap_u64,jO (n:=4) (by decide),mS (n:=4) (by decide),jO (n:=40) (by decide),jO (n:=2) (by decide),w5,m5,q5,d3,d5,S.ld (b:=A) (o:=4) m2 rfl,S.ld (b:=F) (o:=3) m0 rfl,seval];refine bQ (bSetG_ok S.ok bm cp (by omega) (by have:=ad.many;omega) rfl _) ?_;rintro _ h3 ⟨Z,B',d7,ea⟩;replace S:=S.step Z (fun b e=>.inr (by have e:b=fb:=e;omega)) (fun b hb e=>by
              have e:b=fb:=e;simp only [keys,Xm,Xr,Xe,Xa]at hb;have:=kb b hb;omega)
             simp only [BZ,ak,w,seval];exact ih (i+1) _ _ (by omega) ⟨by omega,by omega,B',S,d7,ea tz,by simp [aD,E,an,H,J,r7]⟩
           . have c9: ¬(i:Int)<9:=(by omega);simp only [BZ,E,ak,hN.sl.lenq,aG,hlt,c9,S.ld (b:=A) (o:=4) m2 rfl,seval];exact dU ⟨B,S,bm,tz,by simp [aD,E,an,H,J,r7]⟩
         . simp only [BZ,E,ak,hN.sl.lenq,aG,hlt,S.ld (b:=A) (o:=4) m2 rfl,seval];exact dU ⟨B,S,bm,tz,by simp [aD,E,an,H,J,r7]⟩
       . clear S bn tz E H J r7 r17 r18;rintro s N ⟨B,S,bm,tz,E,H,J,r7⟩;obtain⟨f1,f2⟩:=ay S.fr bm tz (fun h=>absurd h (by omega));simp only [BZ];exact dU ⟨_,_,some _,S9.rebase (S8.rebase S),f1,f2,by rw [bc];rfl,by simp [aD,E,an,H,J,r7]⟩
     . have e8:decide (a/8%2=1)=false:=decide_eq_false h8;obtain⟨f1,f2⟩:=ay S.fr bn tz (fun _=>rfl);simp only [BZ];refine bj (fun(i:Nat) s h'=>i=0/\h'=_/\s 1=ptrTo A/\s 4=ptrTo D/\s 5=ptrTo P/\s 7=ptrTo F/\s 20=.int .i64 0) (fun _=>0) ?_ 0 _ _ ⟨rfl,rfl,by simp [aD,E,an,H,J,r7]⟩;clear E H J r7;rintro i ih s _ ⟨rfl,rfl,E,H,J,r7,ak⟩;by_cases hlt:0<W.length
       . have cN:(0<(W.length:Int))=True:=eq_true (by omega);simp only [BZ,E,ak,hN.sl.lenq,cN,a8,d8,e8,S.ld (b:=A) (o:=4) m2 rfl,S.ld (b:=A) (o:=3) m2 rfl,seval];exact dU ⟨_,_,some _,S9.rebase (S8.rebase S),f1,f2,by rw [bc];rfl,by simp [aD,E,an,H,J,r7]⟩
       . have cN:(0<(W.length:Int))=False:=eq_false (by omega);simp only [BZ,E,ak,hN.sl.lenq,cN,S.ld (b:=A) (o:=4) m2 rfl,seval];exact dU ⟨_,_,some _,S9.rebase (S8.rebase S),f1,f2,by rw [bc];rfl,by simp [aD,E,an,H,J,r7]⟩
 . intro bc;simp only [BZ];exact dU ⟨_,_,none,S,tY,⟨rfl,rfl⟩,by rw [bc];rfl,by simp [aD,E,an,H,J,r7]⟩
 clear S tY E H J r7;intro s hE ⟨pc,pf,C,S,tY,cX,hCs,E,H,J,r7⟩;have hn:=bh S.fr;have gZ:Gr h0 hE:=(ax.fr.trans S.fr (fun c L=>.inr (cT c L)):Mo NoM h0 hE).gr;simp only [BZ,ab,r7,seval];refine⟨gZ,F,⟨u,T,C⟩,rfl,⟨ad,_,_,_,_,_,S.row m0,hn,?_,cX⟩,hTs,hCs⟩;cases T with
 |none=>exact tY|some T=>obtain⟨⟨m,_,x⟩,y⟩:=tY;exact⟨⟨m,by omega,x⟩,y⟩
theorem q8(a:OZ h0){c:Int}:aT zM 60 [.bool true,.int .i64 c] h0 (.tuple #[]):=by have S:=Si a;refine aa (n:=9) (rs:=[]) rfl Tryz.e60 rfl rfl rfl (lbt rfl) ?_;simp only [BZ,ab,seval];exact S.gr
theorem BD{hq:Hp}{L:List (Nat×Ob)}(S:St M h0 hq L G){g:FuncId}:
 Ret zM 150 [.func (.func g) #[] #[]] hq fun r h'=> ∃a,r=.func (.func 218) #[] #[ptrTo a]/\St M h0 h' ((a,.row [.func (.func g) #[] #[]] 1)::L) G:=by
 have c:=S.ok;refine aa (n:=4) (rs:=[.tmp 2]) rfl Tryz.e150 rfl rfl rfl (lbt rfl) ?_;simp only [BZ,seval];refine ae (bA (by intro x e;cases e)) S ?_;clear S;intro h a S b;simp only [ag]at S;simp only [BZ,ab,seval];exact⟨_,rfl,S⟩
def wayV(t c:Bool)(f:Value):List Value:=[.bool t,.bool c,f]
def tw:Nat->Bool
 |2=>true|3=>true|5=>true|_=>false
def cw:Nat->Bool
 |4=>true|5=>true|_=>false
def fw(b1 b2:Nat):Nat->Value
 |0=>.func (.func 218) #[] #[ptrTo b1]|1=>.func (.func 218) #[] #[ptrTo b2]|2=>.func (.func 151) #[] #[]|3=>.func (.func 152) #[] #[]|_=>.func (.func 149) #[] #[]
theorem fw_fl{b1:Nat}:Fl (fw b1 b2 k):=by unfold fw;split<;>exact eh
def dJ(b1 b2:Nat)(k:Nat):List Value:=wayV (tw k) (cw k) (fw b1 b2 k)
theorem ways_at{b1:Nat}(a:k<6):((dJ b1 b2 0++(dJ b1 b2 1++(dJ b1 b2 2++(dJ b1 b2 3++(dJ b1 b2 4++dJ b1 b2 5))))).drop (k*3)).take 3=dJ b1 b2 k:=by
 have:k=0\/k=1\/k=2\/k=3\/k=4\/k=5:=by omega
 rcases this with rfl|rfl|rfl|rfl|rfl|rfl<;>rfl
theorem build_all{a b c d b1 b2 c0 e f g h i j k l m n o:Value}:lj zM 127 [(0,.agg ⟨[a,b,c]⟩),(1,.agg ⟨[d,b1,b2]⟩),(2,.agg ⟨[c0,e,f]⟩),(3,.agg ⟨[g,h,i]⟩),(4,.agg ⟨[j,k,l]⟩),(5,.agg ⟨[m,n,o]⟩)]=some (.agg ⟨[a,b,c,d,b1,b2,c0,e,f,g,h,i,j,k,l,m,n,o]⟩):=by unfold lj;simp only [Tryz.t127.2.2.2.1,Tryz.t127.1,Tryz.t126.2.1];rfl
theorem all_ok(b:OZ h0):Ret zM 61 [] h0 fun r h'=>Gr h0 h'/\ ∃b1 b2,r=.agg ⟨dJ b1 b2 0++(dJ b1 b2 1++(dJ b1 b2 2++(dJ b1 b2 3++(dJ b1 b2 4++dJ b1 b2 5))))⟩/\h'.load b1 0 1=some [.func (.func 45) #[] #[]]/\h'.load b2 0 1=some [.func (.func 50) #[] #[]]/\h0.n<=b1/\h0.n<=b2:=by
 have S:=Si b;refine aa (n:=13) (rs:=[.cell 0 127]) rfl Tryz.e61 rfl rfl rfl (lbt rfl) ?_;simp only [BZ];refine ae aA S ?_;clear S;intro h d S a;simp only [BZ];refine step_ret (BD S) ?_;rintro _ h ⟨b1,rfl,S⟩;simp only [BZ,seval];refine step_ret (BD S) ?_;rintro _ h ⟨b2,rfl,S⟩;simp only [BZ,build_all,seval];refine aE (S.store (i:=2) rfl ?_ ?_ rfl rfl ?_ ono) ?_
 . exact(by exact Tryz.t127.2.2.1)
 . exact(by intro x e;cases e)
 . exact lbt rfl
 clear S;rintro h ⟨S,c⟩;clear c;simp only [LC,ag,lay,XJ,XK,seval]at S;simp only [BZ,ab];refine(bF (by decide) (by simp only [aC,an,seval];exact bD Tryz.t127.2.1 Tryz.t127.2.2.1 (S.lds (o:=0) (n:=18) m2 (lbt rfl)))).2 ?_;exact cg.2 ⟨S.gr,b1,b2,rfl,S.ld m1 rfl,S.ld m0 rfl,(S.own _ m1).1.resolve_right (fun h=>h),(S.own _ m0).1.resolve_right (fun h=>h)⟩
theorem St.ne01{L:List (Nat×Ob)}(S:St M h0 h L G){i j b:Nat}{o o':Ob}(d:L[i]? =some (b,o))(e:L[j]? =some (c,o'))(a:i≠j):b≠c:=by rintro rfl;have f:=ou (G:=G) d;have g:=ou (G:=G) e;exact a (qr S.apart f g)
structure Ev2 where
 kind:Nat
 side:Bool
 id:Nat
 lab:Nat
structure Sd where
 K:Nat->Option Int
 L:Nat->Option Nat
 P:Nat->List Nat
 O:List Nat
structure Bi where
 sd:Bool->Sd
 ev:List Ev2
 dist:Nat
 meet:Nat
variable{σ τ:Bi}
def fsB(i:Bool):Arc->Nat:=if i then Arc.t else Arc.s
def ftB(i:Bool):Arc->Nat:=if i then Arc.s else Arc.t
def qB(pi:Nat->Int)(i:Bool)(v:Nat):Int:=if i then-pi v else pi v
def OpB(pi:Nat->Int)(v:Nat):Prop:= -(FAR:Int)<pi v/\pi v<(FAR:Int)
instance (pi:Nat->Int)(v:Nat):Decidable (OpB pi v):=by unfold OpB;infer_instance
def dK(f:Bool->Sd)(i:Bool)(x:Sd):Bool->Sd:=fun j=>if j=i then x else f j
def leO(o:Option Nat)(lab:Nat):Bool:=match o with
 |some w=>decide (w<=lab)|none=>false
def rO(o:Option Nat)(σ:Bi)(v lab:Nat):Bi:=match o with
 |some m=>if lab+m<σ.dist then⟨σ.sd,σ.ev,lab+m,v⟩else σ
 |none=>σ
def fe(pi:Nat->Int)(x:Sd)(i:Bool)(v lab:Nat)(p:List Nat):Sd:=⟨dq x.K v (some (2*lab+qB pi i v)),fun u=>if u=v then some lab else x.L u,m8 x.P v p,x.O⟩
def dp(pi:Nat->Int)(i:Bool)(σ:Bi)(v lab:Nat)(p:List Nat):Bi:=
 if v∈(σ.sd i).O\/ ¬OpB pi v\/leO ((σ.sd i).L v) lab=true then σ else rO ((σ.sd (!i)).L v) ⟨dK σ.sd i (fe pi (σ.sd i) i v lab p),σ.ev,σ.dist,σ.meet⟩ v lab
def labB(σ:Bi)(i:Bool)(v:Nat):Nat:=((σ.sd i).L v).getD 0
def evB(σ:Bi)(e:Ev2):Bi:=⟨σ.sd,σ.ev++[e],σ.dist,σ.meet⟩
def cS(σ:Bi)(i:Bool)(v:Nat):Bi:=⟨dK σ.sd i ⟨dq (σ.sd i).K v none,(σ.sd i).L,(σ.sd i).P,(σ.sd i).O++[v]⟩,σ.ev++[⟨0,i,v,labB σ i v⟩],σ.dist,σ.meet⟩
def gD(A:List Arc)(al:Nat->Bool)(pi:Nat->Int)(i:Bool)(v:Nat)(σ:Bi)(a:Nat):Bi:=
 if al a=true then dp pi i (evB σ ⟨1,i,a,0⟩) (ftB i (A.getD a default)) (labB σ i v+(A.getD a default).w) (a::(σ.sd i).P v)else σ
def kE(A:List Arc)(al:Nat->Bool)(pi:Nat->Int)(i:Bool)(v:Nat)(σ:Bi):Bi:=(outs A (fsB i) A.length v).foldl (gD A al pi i v) σ
def iO:Sd:=⟨fun _=>none,fun _=>none,fun _=>[],[]⟩
def mX(pi:Nat->Int)(s t:Nat):Bi:=dp pi true (dp pi false ⟨fun _=>iO,[],FAR,0⟩ s 0 []) t 0 []
def StopB(σ:Bi):Prop:=(∃i,∀v,(σ.sd i).K v=none)\/ ∃v k u l,oe (σ.sd false).K v k/\oe (σ.sd true).K u l/\2*(σ.dist:Int)<=k+l
def TurnB(σ:Bi)(i:Bool):Prop:= ∃v k u l,oe (σ.sd false).K v k/\oe (σ.sd true).K u l/\k+l<2*(σ.dist:Int)/\i=decide (l<k)
inductive kL(A:List Arc)(al:Nat->Bool)(pi:Nat->Int):Bi->Bi->Prop where
 |stop {σ:Bi}:StopB σ->kL A al pi σ σ
 |step {σ τ:Bi} {i:Bool} {v:Nat} {k:Int}:TurnB σ i->oe (σ.sd i).K v k->kL A al pi (kE A al pi i v (cS σ i v)) τ->kL A al pi σ τ
theorem fg{f:Bool->Sd}{x:Sd}:dK f i x i=x:=if_pos rfl
theorem nQ{f:Bool->Sd}{x:Sd}:dK f i x (!i)=f (!i):=if_neg (by grind)
theorem zz{f:Bool->Sd}{x:Sd}(h:j≠i):dK f i x j=f j:=if_neg h
theorem rB{o:Option Nat}:(rO o σ v lab).sd=σ.sd/\(rO o σ v lab).ev=σ.ev:=by unfold rO;grind
section
variable{A:List Arc}{N:Nat}{al:Nat->Bool}{pi:Nat->Int}{σ:Bi}{rt:Bool->Nat}
structure SvB(A:List Arc)(N r:Nat)(al:Nat->Bool)(pi:Nat->Int)(i:Bool)(x:Sd):Prop where
 nd:x.O.Nodup
 lt: ∀v∈x.O,v<N/\x.L v≠none
 op: ∀v k,x.K v=some k->v∉x.O/\ ∃l,x.L v=some l/\k=2*(l:Int)+qB pi i v
 lab: ∀v l,x.L v=some l->v<N/\OpB pi v/\l<=x.O.length*cH/\(x.P v).length<=x.O.length/\(v∈x.O\/x.K v≠none)
 path: ∀v l,x.L v=some l->(v=r/\x.P v=[]/\l=0)\/ ∃a m,a<A.length/\al a=true/\ftB i (A.getD a default)=v/\fsB i (A.getD a default)∈x.O/\x.P v=a::x.P (fsB i (A.getD a default))/\x.L (fsB i (A.getD a default))=some m/\l=m+(A.getD a default).w
structure BiI(A:List Arc)(N:Nat)(rt:Bool->Nat)(al:Nat->Bool)(pi:Nat->Int)(σ:Bi):Prop where
 sv: ∀i,SvB A N (rt i) al pi i (σ.sd i)
 dm:(σ.dist=FAR/\ ∀i v x,(σ.sd i).L v=some x->(σ.sd (!i)).L v=none)\/(∀i,∃x y,(σ.sd i).L σ.meet=some x/\(σ.sd (!i)).L σ.meet=some y/\σ.dist=x+y)
 le: ∀i v x y,(σ.sd i).L v=some x->(σ.sd (!i)).L v=some y->σ.dist<=x+y
theorem SvB.len{x:Sd}(h:SvB A N r al pi i x):x.O.length<=N:=rj N x.O h.nd (fun v a=>(h.lt v a).1)
theorem tF(h:j≠i):j= !i:=by cases i<;>cases j<;>first|rfl|grind
theorem not_ne:(!i)≠i:=by grind
theorem SvB.put{x:Sd}(h:SvB A N r al pi b x)(y:v∉x.O)(j:OpB pi v)(E:v<N)(b1:lab<=x.O.length*cH)(b2:p.length<=x.O.length)
 (d:(v=r/\p=[]/\lab=0)\/ ∃a m,a<A.length/\al a=true/\ftB b (A.getD a default)=v/\fsB b (A.getD a default)∈x.O/\p=a::x.P (fsB b (A.getD a default))/\x.L (fsB b (A.getD a default))=some m/\lab=m+(A.getD a default).w):
 SvB A N r al pi b (fe pi x b v lab p):=by
 have F: ∀{u},u∈x.O->u≠v:=fun f e=>y (e▸f);have g: ∀{u},u≠v->(fe pi x b v lab p).L u=x.L u:=fun h=>if_neg h;have z: ∀{u},u≠v->(fe pi x b v lab p).K u=x.K u:=fun h=>if_neg h;have B: ∀{u},u≠v->(fe pi x b v lab p).P u=x.P u:=fun h=>if_neg h;have n:(fe pi x b v lab p).L v=some lab:=if_pos rfl;have C:(fe pi x b v lab p).K v=some (2*(lab:Int)+qB pi b v):=if_pos rfl;have D:(fe pi x b v lab p).P v=p:=if_pos rfl;refine⟨h.nd,fun u f=>⟨(h.lt u f).1,by rw [g (F f)];exact(h.lt u f).2⟩,fun u k i=>?_,fun u l c=>?_,fun u l c=>?_⟩
 . by_cases e:u=v
   . subst e;rw [C]at i;cases i;exact⟨y,lab,n,rfl⟩
   . rw [z e]at i;rw [g e];exact h.op u k i
 . by_cases e:u=v
   . subst e;rw [n]at c;cases c;exact⟨E,j,b1,by rw [D];exact b2,.inr (by rw [C];nofun)⟩
   . rw [g e]at c;rw [z e,B e];exact h.lab u l c
 . by_cases e:u=v
   . subst e;rw [n]at c;cases c;rw [D];rcases d with d|⟨a,m,o,q,s,t,G,H,w⟩
     . exact .inl d
     . exact .inr ⟨a,m,o,q,s,t,by grind,by grind,w⟩
   . rw [g e]at c;rw [B e];rcases h.path u l c with d|⟨a,m,o,q,s,t,G,H,w⟩
     . exact .inl d
     . exact .inr ⟨a,m,o,q,s,t,by grind,by grind,w⟩
theorem BiI.reach    (j:N<=12) (h:BiI A N rt al pi σ) (H:v<N) (b1:lab<=(σ.sd b).O.length*cH) (b2:p.length<=(σ.sd b).O.length)
 (I:(v=rt b/\p=[]/\lab=0)\/ ∃a m,a<A.length/\al a=true/\ftB b (A.getD a default)=v/\fsB b (A.getD a default)∈(σ.sd b).O/\p=a::(σ.sd b).P (fsB b (A.getD a default))/\(σ.sd b).L (fsB b (A.getD a default))=some m/\lab=m+(A.getD a default).w):
 BiI A N rt al pi (dp pi b σ v lab p):=by
 unfold dp
 split
 . exact h
 . rename_i C;simp only [not_or,Decidable.not_not]at C;obtain⟨J,B,hle⟩:=C;have k: ∀i,SvB A N (rt i) al pi i (dK σ.sd b (fe pi (σ.sd b) b v lab p) i):=fun i=>by
    by_cases e:i=b
    . subst e;rw [fg];exact(h.sv i).put J B H b1 b2 I
    . rw [zz e];exact h.sv i
   have s: ∀u,(dK σ.sd b (fe pi (σ.sd b) b v lab p) (!b)).L u=(σ.sd (!b)).L u:=fun u=>(by rw [nQ]);have K:(dK σ.sd b (fe pi (σ.sd b) b v lab p) b).L v=some lab:=(by rw [fg];exact if_pos rfl);have t: ∀{u},u≠v->(dK σ.sd b (fe pi (σ.sd b) b v lab p) b).L u=(σ.sd b).L u:=fun {u} e=>by rw [fg];exact if_neg e
   -- the smaller facts, for side b and its opposite
   have L:=h.sv b;have M:=gX;have U:=jT;have n: ∀{i u l},(σ.sd i).L u=some l->l<=12*cH:=fun {i u l} O=>(by have q:=((h.sv i).lab u l O).2.2.1;have o:=Xn cH (XA (h.sv i).len j);omega);have D:lab<=12*cH:=(by have o:=Xn cH (XA L.len j);omega);have c: ∀{P:Bool->Prop},P b->P (!b)-> ∀i,P i:=fun {P} V Q i=>by
    by_cases e:i=b
    . grind
    . rw [tF e];exact Q
   have E:(!(!b))=b:=(by cases b<;>rfl);cases R:(σ.sd (!b)).L v with
   | none =>
     unfold rO;simp only [];refine⟨k,?_,?_⟩
     . rcases h.dm with⟨F,S⟩|d
       . refine .inl ⟨F,c (P:=fun i=> ∀u x,(dK σ.sd b (fe pi (σ.sd b) b v lab p) i).L u=some x->(dK σ.sd b (fe pi (σ.sd b) b v lab p) (!i)).L u=none) (fun u x f=>?_) (fun u x f=>?_)⟩
         . grind
         grind
       . have T:σ.meet≠v:=fun e=>(by obtain⟨x,y,_,o,_⟩:=d b;grind);refine .inr (c (P:=fun i=> ∃x y,(dK σ.sd b (fe pi (σ.sd b) b v lab p) i).L σ.meet=some x/\(dK σ.sd b (fe pi (σ.sd b) b v lab p) (!i)).L σ.meet=some y/\σ.dist=x+y) ?_ ?_)
         . obtain⟨x,y,q,o,w⟩:=d b;grind
         . obtain⟨x,y,q,o,w⟩:=d (!b);grind
     . refine c (P:=fun i=> ∀u x y,(dK σ.sd b (fe pi (σ.sd b) b v lab p) i).L u=some x->(dK σ.sd b (fe pi (σ.sd b) b v lab p) (!i)).L u=some y->σ.dist<=x+y) (fun u x y f g=>?_) (fun u x y f g=>?_)
       . rw [s]at g;by_cases e:u=v
         . grind
         . rw [t e]at f;exact h.le b u x y f g
       . rw [s]at f;rw [E]at g;by_cases e:u=v
         . grind
         . rw [t e]at g;exact h.le (!b) u x y f (by grind)
   | some m =>
     have W:=n R;have X: ∀{i:Bool} {u x y:Nat},(dK σ.sd b (fe pi (σ.sd b) b v lab p) i).L u=some x->(dK σ.sd b (fe pi (σ.sd b) b v lab p) (!i)).L u=some y->(u=v/\x+y=lab+m)\/(u≠v/\σ.dist<=x+y):=fun {i u x y} f g=>by
      by_cases e:u=v
      . subst e;refine .inl ⟨rfl,?_⟩;by_cases z:i=b
        . grind
        . rw [tF z]at f g;grind
      . refine .inr ⟨e,?_⟩;by_cases z:i=b
        . subst z;rw [t e]at f;rw [s]at g;exact h.le i u x y f g
        . rw [tF z]at f g;rw [s]at f;rw [E,t e]at g;exact h.le (!b) u x y f (by grind)
     unfold rO;simp only []
     split
     . rename_i hlt;refine⟨k,.inr (c (P:=fun i=> ∃x y,(dK σ.sd b (fe pi (σ.sd b) b v lab p) i).L v=some x/\(dK σ.sd b (fe pi (σ.sd b) b v lab p) (!i)).L v=some y/\lab+m=x+y) ⟨lab,m,K,by grind,rfl⟩ ⟨m,lab,by grind,by grind,Nat.add_comm _ _⟩),fun i u x y f g=>?_⟩;grind
     . rename_i r;have r: ¬lab+m<σ.dist:=r;have G: ∀x,(σ.sd b).L v=some x->lab<x:=fun x f=>(by simp_all[hle,leO,decide_eq_true_eq]);refine⟨k,?_,fun i u x y f g=>?_⟩
       . rcases h.dm with⟨F,S⟩|d
         . omega
         . have T:σ.meet≠v:=fun e=>(by obtain⟨x,y,q,o,w⟩:=d b;grind);refine .inr (c (P:=fun i=> ∃x y,(dK σ.sd b (fe pi (σ.sd b) b v lab p) i).L σ.meet=some x/\(dK σ.sd b (fe pi (σ.sd b) b v lab p) (!i)).L σ.meet=some y/\σ.dist=x+y) ?_ ?_)
           . obtain⟨x,y,q,o,w⟩:=d b;grind
           . obtain⟨x,y,q,o,w⟩:=d (!b);grind
       grind
end
theorem uw(s:OZ h0){F:List Nat}{p:Value}{K:Nat->Option Int}(H:cG h0 F p N K):
 ∃(k:Int) (b:Bool),aT zM 210 [p] h0 (.tuple #[.int .i64 k,.bool b])/\((b=false/\ ∀v,K v=none)\/(b=true/\ ∃v,oe K v k)):=by
 obtain⟨m,q,t⟩:=th s H;obtain⟨P,Q,l,rfl,A,r,hlt,B⟩:=H.ex;by_cases d:m=0
 . refine⟨0,false,?_,.inl ⟨rfl,t.1 d⟩⟩;subst d;have S:=Si s;refine aa (n:=15) (rs:=[.tmp 2,.tmp 3]) rfl Tryz.e210 rfl rfl rfl (lbt rfl) ?_;simp only [BZ,seval];refine am (q) ?_;intro h g;replace S:=S.call g;clear g;simp only [BZ,ab,Xc,seval];exact S.gr
 . have w: ¬((m:Int)=0):=(by omega);rcases B with⟨rfl,_⟩|⟨D,E,rfl,R⟩
   . exact absurd (t.2 r.nil) d
   . have a:0<l.length:=by
      cases l with
      |nil=>exact absurd (t.2 r.nil) d|cons x l=>simp
     refine⟨(l.getD 0 default).key,true,?_,.inr ⟨rfl,(l.getD 0 default).id,r.at a,fun u T G=>?_⟩⟩
     . have S:=Si s;refine aa (n:=15) (rs:=[.tmp 2,.tmp 3]) rfl Tryz.e210 rfl rfl rfl (lbt rfl) ?_;simp only [BZ,seval];refine am (q) ?_;intro h g;replace S:=S.call g;replace R:=R.gr g;clear g;obtain⟨U,V,c,f,y,I,C,W,X⟩:=R.ex;have J:=R.row.load1 (o:=0) rfl;have L:=C.ld2 y a;have z:h.load D (0*2+1) 1=some [.int .i64 (l.getD 0 default).key]:=ra L (i:=1) (m:=1) (by omega);have M:iP (.int .i64 0) l.length=some 0:=ia (i:=0) a;simp only [BZ,ab,w,J,M,z,seval];exact S.gr
     . obtain⟨j,O,e⟩:=r.idx G;have:=A7 A j O;rw [e]at this;unfold Ab.hle at this;simp only []at this;omega
theorem bpi_ok(k:OZ h0)(f:h0.load br 4 1=some [vPi])(d:az h0 1 (encI .i64) vPi pis)(a:v<pis.length\/pis=[]/\vPi=.slice none 0 0):
 aT zM 207 [ptrTo br,.int .i64 (v:Nat)] h0 (.tuple #[.int .i64 (pis.getD v 0),.bool (decide (-(FAR:Int)<pis.getD v 0/\pis.getD v 0<FAR))]):=by
 have S:=Si k;have l:=gX;rcases a with a|a;rotate_left
 . obtain⟨rfl,_⟩:=a;refine aa (n:=29) (rs:=[.tmp 4,.tmp 5]) rfl Tryz.e207 rfl rfl rfl (lbt rfl) ?_;simp only [BZ,ab,Xc,f,d.lenq,seval];exact⟨by rw [decide_eq_true (by simp only [List.getD_nil];omega)];rfl,S.gr⟩
 have g: ¬((pis.length:Int)=0):=by omega
 obtain⟨c,o,h,b⟩:=d.ix (kd:=.i64) (bV .i64) a;have e:pis.getD v 0=pis[v]:=by rw [Xd,XI a,Xj]
 rw [e];generalize pis[v]=p at b;replace b:h0.load c o 1=some [.int .i64 p]:=b;refine aa (n:=29) (rs:=[.tmp 4,.tmp 5]) rfl Tryz.e207 rfl rfl rfl (lbt rfl) ?_;by_cases i:(-72057594037927936:Int)<p
 . by_cases j:p<72057594037927936
   . simp only [BZ,ab,f,d.lenq,g,h,b,i,j,seval];refine⟨?_,S.gr⟩;rw [decide_eq_true (by omega)]
   . simp only [BZ,ab,f,d.lenq,g,h,b,i,j,seval];refine⟨?_,S.gr⟩;rw [decide_eq_false (by omega)]
 . simp only [BZ,ab,f,d.lenq,g,h,b,i,seval];refine⟨?_,S.gr⟩;rw [decide_eq_false (by omega)]
theorem pair_nl{x:Option Tch}:js none x=true:=by cases x<;>rfl
theorem pair_nr{x:Option Tch}:js x none=true:=by
 cases x with
 |none=>rfl|some x=>cases x<;>rfl
theorem rU(a:OZ h0){b:Nat}{p:Value}(c:aX h0 b p γ)(d:h0.load b2 0 1=some [p])(e:v<γ.nodes):aT zM 204 [.int .i64 (v:Nat),ptrTo b2] h0 (.bool true):=by
 have S:=Si a;have f:(0:Int)<=(v:Int):=by omega
 refine aa (n:=12) (rs:=[.tmp 3]) rfl Tryz.e204 rfl rfl rfl (lbt rfl) ?_;simp only [BZ,d,f,seval];refine am (bM S.ok c) ?_;intro h g;replace S:=S.call g;simp only [BZ,ab,aG,e,seval];exact S.gr
theorem rS(d:OZ h0){b:Nat}(h:a=0\/a=b):aT zM 205 [.int .i64 (a:Nat),.int .i64 (b:Nat)] h0 (.bool true):=by
 have S:=Si d;refine aa (n:=12) (rs:=[.tmp 4]) rfl Tryz.e205 rfl rfl rfl (lbt rfl) ?_;by_cases c:a=0
 . subst c;simp only [BZ,ab,Xc,seval];exact S.gr
 . have e:a=b:=h.resolve_left c;subst e;have f: ¬(a:Int)=0:=(by omega);simp only [BZ,ab,f,seval];exact S.gr
theorem rightN_ok(H:OZ h0){I p to:Nat}(l:aX h0 I (ptrTo p) γ)(J:s<γ.nodes)(K:to<γ.nodes):
 aT zM 127 [ptrTo p,.agg ⟨[.int .i64 (s:Nat),.int .i64 (to:Nat),.slice none 0 0,.slice none 0 0]⟩] h0 (.bool true):=by
 have S:=Si H;refine aa (n:=36) (rs:=[.tmp 4]) rfl Tryz.e127 rfl rfl rfl (lbt rfl) ?_;simp only [BZ,seval];refine ae (bN (by exact bH)) S ?_;clear S;intro h c S r;simp only [BZ,if_false,seval];refine ae (bA (by intro x e;cases e)) S ?_;clear S;intro h d S t;simp only [ag]at S;simp only [BZ,seval];have t2:=(S.row (b:=c) m1).lt S.ok;have t3:=(S.row (b:=d) m0).lt S.ok;have L:=S.gr.n;refine ar (aw rfl) (q:=0) (ps:=[(23,25),(22,25),(14,16),(13,16)]) (by kernel_rfl) ?_;simp only [BZ,cls,S.ld (b:=d) (o:=0) m0 rfl,seval];refine bg (rU S.ok (l.gr S.gr) (S.ld (b:=c) (o:=0) m1 rfl) J) ?_;intro M f;have u:=ah f t2;have e3:=ah f t3;have v:=f.n;replace S:=S.call f;clear f;simp only [BZ,cls,S.ld (b:=d) (o:=1) m0 rfl,seval];refine bg (rU S.ok (l.gr S.gr) (S.ld (b:=c) (o:=0) m1 rfl) K) ?_;intro w g;have e4:=ah g (XF t2 v);have e5:=ah g (XF t3 v);have N:=g.n;replace S:=S.call g;clear g;simp only [BZ,cls,Xc,S.ld (b:=d) (o:=2) m0 rfl,S.ld (b:=c) (o:=0) m1 rfl,seval];refine bg (kH S.ok (l.gr S.gr)) ?_;intro y i;have z:=ah i (show c<w.n by omega);have A:=ah i (show d<w.n by omega);have O:=i.n;replace S:=S.call i;clear i;simp only [BZ,cls,seval];refine bg (rS (a:=0) (b:=γ.arcs.length) S.ok (.inl rfl)) ?_;intro B j;have e8:=ah j (show c<y.n by omega);have e9:=ah j (show d<y.n by omega);have P:=j.n;replace S:=S.call j;clear j;simp only [BZ,cls,Xc,S.ld (b:=d) (o:=3) m0 rfl,S.ld (b:=c) (o:=0) m1 rfl,seval];refine bg (bM S.ok (l.gr S.gr)) ?_;intro C k;have D:=ah k (show c<B.n by omega);have E:=ah k (show d<B.n by omega);have Q:=k.n;replace S:=S.call k;clear k;simp only [BZ,cls,seval];refine bg (rS (a:=0) (b:=γ.nodes) S.ok (.inl rfl)) ?_;intro R m;have F:=ah m (show c<C.n by omega);have G:=ah m (show d<C.n by omega);replace S:=S.call m;simp only [BZ,cls,ab,seval];refine⟨by simp only [aK,aO,aH,aQ,aJ,ne_eq,not_false_eq_true,aS,bz,aN,aM,bG,bS,aC,Xs,an,tt,jq,jv,pair_nl,pair_nr,ao u,aq u,ao e3,aq e3,ao e4,aq e4,ao e5,aq e5,ao z,aq z,ao A,aq A,ao e8,aq e8,ao e9,aq e9,ao D,aq D,ao E,aq E,ao F,aq F,ao G,aq G,seval],?_⟩;exact S.gr
theorem bright_ok(v:OZ h0){V y to:Nat}(r:aX h0 V (ptrTo y) γ)(z:s<γ.nodes)(A:to<γ.nodes)(t:az h0 1 (encI .i64) vPi pis)(i:pis.length=γ.nodes\/pis=[]/\vPi=.slice none 0 0):
 aT zM 127 [ptrTo y,.agg ⟨[.int .i64 (s:Nat),.int .i64 (to:Nat),.slice none 0 0,vPi]⟩] h0 (.bool true):=by
 rcases i with i|i;rotate_left
 . obtain⟨rfl,rfl⟩:=i;exact rightN_ok v r z A
 have S:=Si v;have W:=t.fl;obtain⟨g,X,Y,Z,rfl⟩: ∃b o s c,vPi=.slice (some ⟨b,o,s⟩) pis.length c:=by
  rcases t with⟨_,rfl⟩|⟨b,o,s,c,e,_⟩
  . simp at i;omega
  . exact⟨b,o,s,c,e⟩
 have ti:g<h0.n:=t.blt v rfl;refine aa (n:=36) (rs:=[.tmp 4]) rfl Tryz.e127 rfl rfl rfl (lbt rfl) ?_;simp only [BZ,seval];refine ae (bN (by exact bH)) S ?_;clear S;intro h d S B;simp only [BZ,if_false,seval];refine ae (bA (by intro x e;cases e)) S ?_;clear S;intro h f S C;simp only [ag]at S;simp only [BZ,seval];have t2:=(S.row (b:=d) m1).lt S.ok;have t3:=(S.row (b:=f) m0).lt S.ok;have k0:=S.gr.n;refine ar (aw rfl) (q:=0) (ps:=[(23,25),(22,25),(14,16),(13,16)]) (by kernel_rfl) ?_;simp only [BZ,cls,S.ld (b:=f) (o:=0) m0 rfl,seval];refine bg (rU S.ok (r.gr S.gr) (S.ld (b:=d) (o:=0) m1 rfl) z) ?_;intro h1 j;have D:=ah j t2;have e3:=ah j t3;have E:=ah j (show g<_ by omega);have F:=j.n;replace S:=S.call j;clear j;simp only [BZ,cls,S.ld (b:=f) (o:=1) m0 rfl,seval];refine bg (rU S.ok (r.gr S.gr) (S.ld (b:=d) (o:=0) m1 rfl) A) ?_;intro G k;have e4:=ah k (XF t2 F);have e5:=ah k (XF t3 F);have H:=ah k (show g<_ by omega);have k2:=k.n;replace S:=S.call k;clear k;simp only [BZ,cls,Xc,S.ld (b:=f) (o:=2) m0 rfl,S.ld (b:=d) (o:=0) m1 rfl,seval];refine bg (kH S.ok (r.gr S.gr)) ?_;intro I l;have J:=ah l (show d<G.n by omega);have K:=ah l (show f<G.n by omega);have L:=ah l (show g<_ by omega);have k3:=l.n;replace S:=S.call l;clear l;simp only [BZ,cls,seval];refine bg (rS (a:=0) (b:=γ.arcs.length) S.ok (.inl rfl)) ?_;intro M m;have e8:=ah m (show d<I.n by omega);have e9:=ah m (show f<I.n by omega);have N:=ah m (show g<_ by omega);have k4:=m.n;replace S:=S.call m;clear m;simp only [BZ,cls,(t.gr S.gr).lenq,S.ld (b:=f) (o:=3) m0 rfl,S.ld (b:=d) (o:=0) m1 rfl,seval];refine bg (bM S.ok (r.gr S.gr)) ?_;intro w p;have O:=ah p (show d<M.n by omega);have P:=ah p (show f<M.n by omega);have Q:=ah p (show g<_ by omega);have k5:=p.n;replace S:=S.call p;clear p;simp only [BZ,cls,seval];refine bg (rS (a:=pis.length) (b:=γ.nodes) S.ok (.inr i)) ?_;intro h6 u;have R:=ah u (show d<w.n by omega);have T:=ah u (show f<w.n by omega);have U:=ah u (show g<w.n by omega);replace S:=S.call u;simp only [BZ,cls,ab,seval];refine⟨by simp only [aK,aO,aH,aQ,aJ,ne_eq,not_false_eq_true,aS,bz,aN,aM,bG,bS,aC,Xs,an,tt,jq,jv,pair_nl,pair_nr,ao D,aq D,ao e3,aq e3,ao e4,aq e4,ao e5,aq e5,ao J,aq J,ao K,aq K,ao e8,aq e8,ao e9,aq e9,ao O,aq O,ao P,aq P,ao R,aq R,ao T,aq T,ao E,aq E,ao H,aq H,ao L,aq L,ao N,aq N,ao Q,aq Q,ao U,aq U,seval],?_⟩;exact S.gr
def jJ(i:Bool):Nat:=if i then 1 else 0
def jz(e:Ev2):List Value:=[.int .i64 (e.kind:Nat),.int .i64 (jJ e.side:Nat),.int .i64 (e.id:Nat),.int .i64 (e.lab:Nat)]
structure Sx where
 b:Nat
 p:Nat
 ml:Nat
 ma:Nat
 mc:Nat
 vA:Value
 vH:Value
 el:List (Value×Value×Nat)
 cl:Nat
 ea:List (Value×Value×Nat)
 ca:Nat
 ec:List (Value×Value×Nat)
 cc:Nat
def kW(i:Bool):Int:=if i then-1 else 1
def Sx.row(x:Sx)(i:Bool):List Value:=[ptrTo x.p,.int .i64 (jJ i:Nat),.int .i64 (kW i),x.vA,x.vH,.map (some x.ml),.map (some x.ma),.map (some x.mc)]
def Sx.L(x:Sx)(i:Bool):List (Nat×Ob):=[(x.b,.row (x.row i) 1),(x.ml,.map x.el x.cl),(x.ma,.map x.ea x.ca),(x.mc,.map x.ec x.cc)]
structure Sx.Ok(x:Sx)(s:Sd):Prop where
 ml: ∃f,dN x.el x.cl f/\ ∀v:Nat,f v=(s.L v).map fun(l:Nat)=>Value.int .i64 l
 ma: ∃f,dN x.ea x.ca f/\ ∀v:Nat,(s.L v).isSome=true->f v=some (.int .i64 (byI (s.P v)))
 mc: ∃f,dN x.ec x.cc f/\ ∀v:Nat,f v=if v∈s.O then some (.int .i64 1)else none
def ij(pn:Value)(s t:Nat)(vPi:Value)(X:Bool->Sx)(vE:Value)(σ:Bi):List Value:=[pn,.int .i64 (s:Nat),.int .i64 (t:Nat),.slice none 0 0,vPi,ptrTo (X false).b,ptrTo (X true).b,.int .i64 (σ.dist:Nat),.slice none 0 0,vE,.int .i64 (σ.meet:Nat)]
def boL(i:Bool)(br:Nat)(pn:Value)(s t:Nat)(vPi:Value)(X:Bool->Sx)(vE:Value)(σ:Bi):List (Nat×Ob):=(br,.row (ij pn s t vPi X vE σ) 1)::((X i).L i++(X (!i)).L (!i))
def boG(vE:Value)(σ:Bi):List GL:=[(vE,4,σ.ev.flatMap jz)]
structure fm(h:Hp)(br:Nat)(pn:Value)(s t:Nat)(vPi:Value)(X:Bool->Sx)(F:Bool->List Nat)(vE:Value)(N:Nat)(σ:Bi):Prop where
 own: ∀q∈boL false br pn s t vPi X vE σ,Has h q.1 q.2
 ev:ig h (vE,4,σ.ev.flatMap jz)
 nd:(keys (boL false br pn s t vPi X vE σ) (boG vE σ)).Nodup
 heap: ∀i,cG h (F i) (ptrTo (X i).p) N (σ.sd i).K
 ok: ∀i,(X i).Ok (σ.sd i)
 apart: ∀i,∀c∈F i,c∉keys (boL false br pn s t vPi X vE σ) (boG vE σ)/\c∉F (!i)
def boB(br:Nat)(pn:Value)(s t:Nat)(vPi:Value)(X:Bool->Sx)(F:Bool->List Nat)(vE:Value)(σ:Bi):List Nat:=keys (boL false br pn s t vPi X vE σ) (boG vE σ)++(F false++F true)
section
variable{h h':Hp}{br:Nat}{pn:Value}{s t:Nat}{vPi:Value}{X:Bool->Sx}{F:Bool->List Nat}{vE:Value}{N:Nat}{σ:Bi}
theorem pd(i:Bool):List.Perm (boL i br pn s t vPi X vE σ) (boL false br pn s t vPi X vE σ):=by
 cases i with
 |false=>exact List.Perm.refl _|true=>exact List.Perm.cons _ List.perm_append_comm
theorem fm.apart'(a:fm h br pn s t vPi X F vE N σ)(i:Bool)(d:c∈F j):c∉keys (boL i br pn s t vPi X vE σ) (boG vE σ):=fun b=>by
 refine(a.apart j c d).1 ?_;unfold keys at b⊢;rcases List.mem_append.1 b with h|h
 . exact zO _ (((pd i).map _).mem_iff.1 h)
 . exact Xh _ h
theorem qX(a:c∈F i):c∈boB br pn s t vPi X F vE σ:=Xh _ (by cases i;exact zO _ a;exact Xh _ a)
theorem fm.mo{M:Nat->Prop}(a:fm h br pn s t vPi X F vE N σ)(g:Mo M h h')(d: ∀b∈boB br pn s t vPi X F vE σ,¬M b):fm h' br pn s t vPi X F vE N σ:=
 ⟨fun q e=>g.has (a.own q e) (d _ (zO _ (iQ e))),
  a.ev.of_get fun b c=>g.get b (a.ev.lt g.ok0 c) (d b (zO _ (fF (p:=(vE,4,σ.ev.flatMap jz)) m0 c))),a.nd,
  fun i=>(a.heap i).mo g (fun b c=>d b (qX c)),a.ok,a.apart⟩
theorem fm.gr(a:fm h br pn s t vPi X F vE N σ)(g:Gr h h'):fm h' br pn s t vPi X F vE N σ:=a.mo (M:=NoM) g.fr (fun _ _ h=>h)
theorem fm.st(a:fm h br pn s t vPi X F vE N σ)(d:OZ h)(i:Bool):St (· ∈boB br pn s t vPi X F vE σ) h h (boL i br pn s t vPi X vE σ) (boG vE σ):=by
 have S:St (· ∈boB br pn s t vPi X F vE σ) h h (boL false br pn s t vPi X vE σ) (boG vE σ):=
  ⟨Mo.refl d,fun p c=>⟨.inr (zO _ (iQ c)),a.own p c⟩,fun p c=>by
   simp only [boG,List.mem_singleton]at c;subst c;exact⟨a.ev,fun b e=>.inr (zO _ (fF (p:=(vE,4,σ.ev.flatMap jz)) m0 e))⟩,a.nd⟩
 exact S.permL (pd i)
theorem fm.of(i:Bool)(S:St M h0 h (boL i br pn s t vPi X vE σ) (boG vE σ))(e: ∀i,cG h (F i) (ptrTo (X i).p) N (σ.sd i).K)(f: ∀i,(X i).Ok (σ.sd i))(a: ∀j,∀c∈F j,c∉keys (boL i br pn s t vPi X vE σ) (boG vE σ)/\c∉F (!j)):fm h br pn s t vPi X F vE N σ:=by
 have T:=S.permL (pd (br:=br) (pn:=pn) (s:=s) (t:=t) (vPi:=vPi) (X:=X) (vE:=vE) (σ:=σ) i).symm;refine⟨fun q g=>(T.own q g).2,(T.gown _ m0).1,T.apart,e,f,fun j c b=>⟨fun d=>(a j c b).1 ?_,(a j c b).2⟩⟩;unfold keys at d⊢;rcases List.mem_append.1 d with h|h
 . exact zO _ (((pd i).map _).mem_iff.2 h)
 . exact Xh _ h
theorem fm.rows(a:fm h br pn s t vPi X F vE N σ):Row h br (ij pn s t vPi X vE σ) 1/\ ∀i,Row h (X i).b ((X i).row i) 1:=by
 refine⟨a.own (br,.row _ 1) (by simp [boL]),fun i=>?_⟩;cases i
 . exact a.own ((X false).b,.row _ 1) (by simp [boL,Sx.L])
 . exact a.own ((X true).b,.row _ 1) (by simp [boL,Sx.L])
end
theorem CY(x:OZ h0){X:Bool->Sx}{F:Bool->List Nat}(a:fm h0 br pn s t vPi X F vE N σ)
 (y: ∀i v k,(σ.sd i).K v=some k-> -1000000000000000000<=k/\k<=1000000000000000000) (J:σ.dist<=FAR):
 Ret zM 134 [ptrTo br] h0 fun r h'=>Gr h0 h'/\((StopB σ/\r=.pointer none)\/ ∃i,TurnB σ i/\r=ptrTo (X i).b):=by
 have S:=Si x;have K:=gX;obtain⟨R,z⟩:=a.rows;obtain⟨b,L,B,C⟩:=uw x (a.heap false);have e:=R.load1 (o:=5) rfl;have f:=R.load1 (o:=6) rfl;have d:=R.load1 (o:=7) rfl;have D:=(z false).load1 (o:=0) rfl;have q:=(z true).load1 (o:=0) rfl;refine aa (n:=64) (rs:=[.tmp 2]) rfl Tryz.e134 rfl rfl rfl (lbt rfl) ?_;simp only [BZ,Xc,e,D,seval];refine am B ?_;intro M g;replace S:=S.call g;obtain⟨c,O,E,G⟩:=uw S.ok ((a.heap true).gr g);replace e:=g.load e;replace f:=g.load f;replace d:=g.load d;replace q:=g.load q;simp only [BZ,Xc,f,q,seval];refine am E ?_;intro P h;replace S:=S.call h;replace e:=h.load e;replace f:=h.load f;replace d:=h.load d;rcases C with⟨rfl,H⟩|⟨rfl,j,l⟩
 . simp only [BZ,ab,seval];exact⟨S.gr,.inl (.inl ⟨false,H⟩)⟩
 . rcases G with⟨rfl,I⟩|⟨rfl,m,t1⟩
   . simp only [BZ,ab,seval];exact⟨S.gr,.inl (.inl ⟨true,I⟩)⟩
   . have Q:=y false j b l.1;have T:=y true m c t1.1;have u:au .i64 (b+c)=b+c:=(by rw [wrap64]<;>omega);have w:au .i64 (2*(σ.dist:Int))=2*(σ.dist:Int):=(by rw [wrap64]<;>omega);by_cases p:2*(σ.dist:Int)<=b+c
     . simp only [BZ,ab,d,u,w,p,seval];exact⟨S.gr,.inl (.inr ⟨j,b,m,c,l,t1,p⟩)⟩
     . by_cases A:b<=c
       . simp only [BZ,ab,Xc,d,u,w,p,A,e,seval];exact⟨S.gr,.inr ⟨false,⟨j,b,m,c,l,t1,by omega,(decide_eq_false (by omega)).symm⟩,rfl⟩⟩
       . simp only [BZ,ab,Xc,d,u,w,p,A,f,seval];exact⟨S.gr,.inr ⟨true,⟨j,b,m,c,l,t1,by omega,(decide_eq_true (by omega)).symm⟩,rfl⟩⟩
theorem breach_ok  (ok:OZ h0)      {X:Bool->Sx} {F:Bool->List Nat}    (a:fm h0 br pn s t vPi X F vE N σ)
 (sP:az h0 1 (encI .i64) vPi pis) (lP:pis.length=N\/pis=[]/\vPi=.slice none 0 0) (nP: ∀c,av vPi c->c∉boB br pn s t vPi X F vE σ) (hN:N<=12)    (hv:v<N) (hl:lab<=13*cH) (hd:σ.dist<=FAR)
 (hb: ∀j v l,(σ.sd j).L v=some l->l<=13*cH) (bm: ∀l,(σ.sd i).L v=some l->v∉(σ.sd i).O->(σ.sd i).K v=some (2*l+qB (fun v=>pis.getD v 0) i v)) (bn:(σ.sd i).L v=none->(σ.sd i).K v=none):
 Ret zM 133 [ptrTo br,ptrTo (X i).b,.int .i64 (v:Nat),.int .i64 (byI p),.int .i64 (lab:Nat)] h0 fun _ h'=>Mo (· ∈boB br pn s t vPi X F vE σ) h0 h'/\ ∃A F',fm h' br pn s t vPi A F' vE N (dp (fun v=>pis.getD v 0) i σ v lab p)/\(∀j,(A j).b=(X j).b/\(A j).vA=(X j).vA/\(A j).vH=(X j).vH)/\ ∀c∈boB br pn s t vPi A F' vE (dp (fun v=>pis.getD v 0) i σ v lab p),c∈boB br pn s t vPi X F vE σ\/h0.n<=c:=by
 have fr:=gX;have wm:=jT;have S:=a.st ok i;have T:dp (fun v=>pis.getD v 0) i σ v lab p=σ-> ∀h,Gr h0 h->Mo (· ∈boB br pn s t vPi X F vE σ) h0 h/\ ∃A F',fm h br pn s t vPi A F' vE N (dp (fun v=>pis.getD v 0) i σ v lab p)/\(∀j,(A j).b=(X j).b/\(A j).vA=(X j).vA/\(A j).vH=(X j).vH)/\ ∀c∈boB br pn s t vPi A F' vE (dp (fun v=>pis.getD v 0) i σ v lab p),c∈boB br pn s t vPi X F vE σ\/h0.n<=c:=
  fun e h g=>⟨g.fr,X,F,by rw [e];exact a.gr g,fun _=>⟨rfl,rfl,rfl⟩,fun c d=>.inl (by rw [e]at d;exact d)⟩
 have Ho:=a.ok i;have Hq:=a.ok (!i);have H:=a.heap i;have Hx:=a.heap (!i);have hk:=fun j c (d:c∈F j)=>a.apart' i d;have ac: ∀j,∀c∈F j,c∈boB br pn s t vPi X F vE σ\/h0.n<=c:=fun j c d=>.inl (qX d);generalize bv:boB br pn s t vPi X F vE σ=BB at S T ac;rcases hX:X i with⟨y,xp,xl,xa,xc,vA,vH,el,cl,ea,ca,ec,cc⟩;rcases hY:X (!i)with⟨yb,yp,yl,ya,yc,wA,wH,fl,dl,fa,da,fc,dc⟩;rw [hX]at Ho H;rw [hY]at Hq Hx;obtain⟨gl,ML,be⟩:=Ho.ml;obtain⟨ga,MA,bo⟩:=Ho.ma;obtain⟨gc,MC,bf⟩:=Ho.mc;simp only []at ML MA MC;simp only [LC,boL,boG,ij,Sx.L,Sx.row,hX,hY]at S hk;have f: ∀j,∀c∈F j,c≠br/\c≠y/\c≠xl/\c≠xa:=fun j c d=>by have h:=hk j c d;simp only [keys,Xm,List.mem_append,Xk,not_or]at h;exact⟨h.1.1,h.1.2.1,h.1.2.2.1,h.1.2.2.2.1⟩
 have l4:h0.load br 4 1=some [vPi]:=S.ld (b:=br) (o:=4) m0 rfl;have a6:=fun c d=>S.key_lt (b:=c) d;have ad: ∀j:Bool,j≠i->j= !i:=fun j h=>by cases i<;>cases j<;>first|rfl|exact absurd rfl h
 have bh:(!i)≠i:=by cases i<;>decide
 have W : ∀(h':Hp) (F6:List Nat) (J K:List (Value×Value×Nat)) (Y Z:Nat) (U:Bi),U=dp (fun v=>pis.getD v 0) i σ v lab p->U.sd=dK σ.sd i (fe (fun v=>pis.getD v 0) (σ.sd i) i v lab p)->U.ev=σ.ev->
  St (· ∈BB) h0 h' [(br,.row [pn,.int .i64 (s:Nat),.int .i64 (t:Nat),.slice none 0 0,vPi,ptrTo (X false).b,ptrTo (X true).b,.int .i64 (U.dist:Nat),.slice none 0 0,vE,.int .i64 (U.meet:Nat)] 1),(y,.row [ptrTo xp,.int .i64 (jJ i:Nat),.int .i64 (kW i),vA,vH,.map (some xl),.map (some xa),.map (some xc)] 1),(xl,.map J Y),(xa,.map K Z),(xc,.map ec cc),(yb,.row [ptrTo yp,.int .i64 (jJ (!i):Nat),.int .i64 (kW (!i)),wA,wH,.map (some yl),.map (some ya),.map (some yc)] 1),(yl,.map fl dl),(ya,.map fa da),(yc,.map fc dc)] [(vE,4,σ.ev.flatMap jz)]->
  cG h' F6 (ptrTo xp) N (dq (σ.sd i).K v (some (2*lab+qB (fun v=>pis.getD v 0) i v)))->cG h' (F (!i)) (ptrTo yp) N (σ.sd (!i)).K->(∀c∈F6,c∈F i\/h0.n<=c)->dN J Y (dY gl v (some (.int .i64 (lab:Nat))))->dN K Z (dY ga v (some (.int .i64 (byI p))))->
  Mo (· ∈BB) h0 h'/\ ∃A F',fm h' br pn s t vPi A F' vE N (dp (fun v=>pis.getD v 0) i σ v lab p)/\(∀j,(A j).b=(X j).b/\(A j).vA=(X j).vA/\(A j).vH=(X j).vH)/\ ∀c∈boB br pn s t vPi A F' vE (dp (fun v=>pis.getD v 0) i σ v lab p),c∈BB\/h0.n<=c:=by
  intro h' F6 J K Y Z U bp e1 e2 S H6 E B G I;rw [<-bp]
  let A:Bool->Sx:=fun j=>if j=i then⟨y,xp,xl,xa,xc,vA,vH,J,Y,K,Z,ec,cc⟩else X j
  let F':Bool->List Nat:=fun j=>if j=i then F6 else F j
  have xi:A i=⟨y,xp,xl,xa,xc,vA,vH,J,Y,K,Z,ec,cc⟩:=if_pos rfl;have xo:A (!i)=X (!i):=if_neg bh;have fi:F' i=F6:=if_pos rfl;have fo:F' (!i)=F (!i):=if_neg bh;have a7: ∀j,(A j).b=(X j).b/\(A j).vA=(X j).vA/\(A j).vH=(X j).vH:=fun j=>by
   by_cases V:j=i
   . subst V;rw [xi,hX];exact⟨rfl,rfl,rfl⟩
   . rw [ad j V,xo];exact⟨rfl,rfl,rfl⟩
  have eL:boL i br pn s t vPi A vE U=[(br,.row [pn,.int .i64 (s:Nat),.int .i64 (t:Nat),.slice none 0 0,vPi,ptrTo (X false).b,ptrTo (X true).b,.int .i64 (U.dist:Nat),.slice none 0 0,vE,.int .i64 (U.meet:Nat)] 1),(y,.row [ptrTo xp,.int .i64 (jJ i:Nat),.int .i64 (kW i),vA,vH,.map (some xl),.map (some xa),.map (some xc)] 1),(xl,.map J Y),(xa,.map K Z),(xc,.map ec cc),(yb,.row [ptrTo yp,.int .i64 (jJ (!i):Nat),.int .i64 (kW (!i)),wA,wH,.map (some yl),.map (some ya),.map (some yc)] 1),(yl,.map fl dl),(ya,.map fa da),(yc,.map fc dc)]:=by simp only [boL,ij,Sx.L,Sx.row,xi,xo,hY,(a7 false).1,(a7 true).1,Xv,Xy]
  have eG:boG vE U=[(vE,4,σ.ev.flatMap jz)]:=by unfold boG;rw [e2]
  have keyE: ∀c,c∈keys (boL i br pn s t vPi A vE U) (boG vE U)->c<h0.n:=fun c d=>by rw [eL,eG]at d;exact a6 c d
  have a4: ∀c,c∈F i\/c∈F (!i)->c∉keys (boL i br pn s t vPi A vE U) (boG vE U):=fun c d M=>by rw [eL,eG]at M;exact d.elim (fun h=>hk i c h M) (fun h=>hk (!i) c h M)
  rw [<-eL,<-eG]at S;have ap:=fun j c (d:c∈F j)=>(a.apart j c d).2;have lF:=fun j=>(a.heap j).lt ok;refine⟨S.fr,A,F',fm.of i S (fun j=>?_) (fun j=>?_) (fun j c d=>?_),a7,fun c d=>?_⟩
  . by_cases V:j=i
    . subst V;rw [fi,xi,e1,fg];exact H6
    . rw [ad j V,fo,xo,e1,nQ,hY];exact E
  . by_cases V:j=i
    . subst V;rw [xi,e1,fg];refine⟨⟨_,G,fun u=>?_⟩,⟨_,I,fun u hu=>?_⟩,⟨gc,MC,bf⟩⟩
      . simp only [dY,fe];by_cases hu:u=v
        . subst hu;simp
        . rw [if_neg (by omega),if_neg hu];exact be u
      . simp only [dY,fe,m8]at hu⊢;by_cases a8:u=v
        . subst a8;simp
        . rw [if_neg (by omega),if_neg a8];rw [if_neg a8]at hu;exact bo u hu
    . rw [ad j V,xo,e1,nQ];exact a.ok _
  . by_cases V:j=i
    . subst V;rw [fi]at d;rw [fo];rcases B c d with h|h
      . exact⟨a4 c (.inl h),ap _ c h⟩
      . exact⟨fun M=>by have:=keyE c M;omega,fun M=>by have:=lF _ c M;omega⟩
    . rw [ad j V]at d⊢;rw [fo]at d;rw [XT,fi];refine⟨a4 c (.inr d),fun M=>?_⟩;rcases B c M with h|h
      . exact ap _ c h d
      . have:=lF _ c d;omega
  . have hB: ∀j,∀c∈F' j,c∈BB\/h0.n<=c:=fun j c d=>by
     by_cases V:j=i
     . subst V;rw [fi]at d;exact(B c d).elim (fun h=>ac _ c h) .inr
     . rw [ad j V,fo]at d;exact ac _ c d
    rcases List.mem_append.1 d with d|d
    . refine(S.key_own ?_).symm;unfold keys at d⊢;rcases List.mem_append.1 d with h|h
      . exact zO _ (((pd i).map _).mem_iff.2 h)
      . exact Xh _ h
    . rcases List.mem_append.1 d with d|d
      . exact hB _ c d
      . exact hB _ c d
 refine aa (n:=132) (rs:=[]) rfl Tryz.e133 rfl rfl rfl (lbt rfl) ?_;simp only [BZ,seval];refine am (bpi_ok S.ok l4 sP (lP.imp (fun e=>by omega) id)) ?_;intro h1 g1;replace S:=S.call g1;replace H:=H.gr g1;replace Hx:=Hx.gr g1;have D:=nK (x:=(v:Int)) Tryz.t272.1 Tryz.t3.1 (z:=.int .i64 0) (by kernel_rfl) (show h1.get xl=some (.map el cl)from(S.own _ m2).2) ML;have O:=lG (x:=(v:Int)) Tryz.t230.1 Tryz.t3.1 (z:=.int .i64 0) (by kernel_rfl) (show h1.get xc=some (.map ec cc)from(S.own _ m4).2) MC;rw [be]at D;rw [bf]at O;generalize hp:pis.getD v 0=pv;by_cases L:OpB (fun v=>pis.getD v 0) v
 . have ho : decide (-(FAR:Int)<pv/\pv<FAR)=true:=decide_eq_true (by rw [<-hp];exact L);by_cases hO:v∈(σ.sd i).O
   . rw [if_pos hO]at O;simp only [BZ,ho,D,O,Xj,S.ld (b:=y) (o:=5) m1 rfl,S.ld (b:=y) (o:=7) m1 rfl,seval];exact T (by unfold dp;rw [if_pos (.inl hO)]) _ g1
   . rw [if_neg hO]at O;have bi:au .i64 (2*(lab:Int))=2*(lab:Int):=(by rw [wrap64]<;>omega);have bw: -(FAR:Int)<pv/\pv<FAR:=of_decide_eq_true ho;have bk:au .i64 (kW i*pv)=kW i*pv:=(by rw [wrap64]<;>cases i<;>simp only [kW,if_true,if_false,XU]<;>omega);have Q:kW i*pv=qB (fun v=>pis.getD v 0) i v:=(by unfold qB;simp only [hp];cases i<;>simp [kW]);have a5:au .i64 (2*(lab:Int)+kW i*pv)=2*(lab:Int)+kW i*pv:=(by rw [wrap64]<;>cases i<;>simp only [kW,if_true,if_false,XU]<;>omega);cases hL:(σ.sd i).L v with
     | none =>
       rw [hL]at D;simp only [XR,Xw,XV]at D;have R:dp (fun v=>pis.getD v 0) i σ v lab p=rO ((σ.sd (!i)).L v) ⟨dK σ.sd i (fe (fun v=>pis.getD v 0) (σ.sd i) i v lab p),σ.ev,σ.dist,σ.meet⟩ v lab:=(by unfold dp;rw [if_neg (by rw [hL];rintro(h|h|h);exact hO h;exact h L;cases h)]);simp only [BZ,ho,D,O,Xw,S.ld (b:=y) (o:=5) m1 rfl,S.ld (b:=y) (o:=7) m1 rfl,seval];refine ar (aw rfl) (q:=0) (ps:=[]) (by kernel_rfl) ?_;simp only [BZ,cls,S.ld (b:=y) (o:=5) m1 rfl,S.ld (b:=y) (o:=6) m1 rfl,seval];obtain⟨h2,n1,e1,af,bq,bs,_,S1,ba⟩:=S.mentI (i:=2) (x:=(v:Int)) rfl Tryz.t272.1 Tryz.t3.1 (z:=.int .i64 0) (by kernel_rfl) ML;refine mI (P:=fun h' v'=>h'=h2/\v'=.tuple #[(gl v).getD (.int .i64 0),.int .i64 (X9 n1)]) ⟨h2,_,e1,rfl,rfl⟩ ?_;rintro h' v' ⟨rfl,rfl⟩;clear S;have S:=S1;clear S1;simp only [LC]at S;obtain⟨J,ai,G⟩:=ba (.int .i64 (lab:Nat));simp only [BZ,cls,XG,seval];refine cM (S.mstoreI (i:=2) rfl ai) ?_;clear S;rintro h3 ⟨ak,S⟩;simp only [LC]at S;simp only [BZ,cls,seval];obtain⟨h4,n2,e2,al,bt,bu,_,S1,bb⟩:=S.mentI (i:=3) (x:=(v:Int)) rfl Tryz.t230.1 Tryz.t3.1 (z:=.int .i64 0) (by kernel_rfl) MA;refine mI (P:=fun h' v'=>h'=h4/\v'=.tuple #[(ga v).getD (.int .i64 0),.int .i64 (X9 n2)]) ⟨h4,_,e2,rfl,rfl⟩ ?_;rintro h' v' ⟨rfl,rfl⟩;clear S;have S:=S1;clear S1;simp only [LC]at S;obtain⟨K,ax,I⟩:=bb (.int .i64 (byI p));simp only [BZ,cls,XG,seval];refine cM (S.mstoreI (i:=3) rfl ax) ?_;clear S;rintro h5 ⟨ay,S⟩;simp only [LC]at S;simp only [BZ,bi,bk,a5,S.ld (b:=y) (o:=2) m1 rfl,S.ld (b:=y) (o:=0) m1 rfl,seval];have H5:=(((H.mo af (fun c d=>(f i c d).2.2.1)).mo ak (fun c d=>(f i c d).2.2.1)).mo al (fun c d=>(f i c d).2.2.2)).mo ay (fun c d=>(f i c d).2.2.2);have bc:=(((Hx.mo af (fun c d=>(f _ c d).2.2.1)).mo ak (fun c d=>(f _ c d).2.2.1)).mo al (fun c d=>(f _ c d).2.2.2)).mo ay (fun c d=>(f _ c d).2.2.2);refine step_ret (pN S.ok H5 hv (by omega) (bn hL)) ?_;rintro r h6 ⟨f6,F6,H6,bl⟩;have k5:=S.fr.n;have B: ∀c∈F6,c∈F i\/h0.n<=c:=fun c d=>(bl c d).imp (fun h=>h) (fun h=>by omega);have E:=bc.mo f6 (fun c d M=>(a.apart (!i) c d).2 (by rw [XT];exact M));replace S:=S.stepF f6 (fun c d=>⟨ac i c d,hk i c d⟩);simp only [BZ];refine ar (aw rfl) (q:=0) (ps:=[]) (by kernel_rfl) ?_;have wo:au .i64 (1-((jJ i:Nat):Int))=((jJ (!i):Nat):Int):=(by cases i<;>rfl);have io:iP (.int .i64 ((jJ (!i):Nat):Int)) 2=some (jJ (!i)):=ia (by cases i<;>decide);have ly:h6.load br (5+jJ (!i)) 1=some [ptrTo yb]:=S.ld (b:=br) m0 (by
        cases i
        . show some (ptrTo (X true).b)=_;rw [show X true=_ from hY]
        . show some (ptrTo (X false).b)=_;rw [show X false=_ from hY])
       obtain⟨gq,MQ,bd⟩:=Hq.ml;have w:=nK (x:=(v:Int)) Tryz.t272.1 Tryz.t3.1 (z:=.int .i64 0) (by kernel_rfl) (show h6.get yl=some (.map fl dl)from(S.own _ m6).2) MQ;rw [bd]at w;cases hM:(σ.sd (!i)).L v with
       | none=>
         rw [hM]at w;simp only [XR,Xw,XV]at w;simp only [BZ,cls,wo,io,ly,w,S.ld (b:=y) (o:=1) m1 rfl,S.ld (b:=yb) (o:=5) m5 rfl,seval];refine W _ F6 _ _ _ _ ⟨dK σ.sd i (fe (fun v=>pis.getD v 0) (σ.sd i) i v lab p),σ.ev,σ.dist,σ.meet⟩ ?_ rfl rfl S (by rw [<-Q];exact H6) E B G I;rw [R,hM];rfl
       | some m=>
         have M:=hb _ v m hM;have aL:au .i64 ((lab:Int)+(m:Int))=((lab+m:Nat):Int):=(by rw [wrap64]<;>omega);rw [hM]at w;simp only [XE,Xj,XW]at w;by_cases hlt:lab+m<σ.dist
         . have C:((lab+m:Nat):Int)<(σ.dist:Int):=(by omega);simp only [BZ,cls,wo,io,ly,w,aL,C,S.ld (b:=y) (o:=1) m1 rfl,S.ld (b:=yb) (o:=5) m5 rfl,S.ld (b:=br) (o:=7) m0 rfl,seval];refine aE (aF S (i:=0) rfl Tryz.t2.2.2.1 aU (Xg (lbt rfl)) ono) ?_;clear S;rintro h7 ⟨S,a0⟩;simp only [LC]at S;simp only [BZ,seval];refine aE (aF S (i:=0) rfl Tryz.t3.2.2.1 aU (Xg (lbt rfl)) ono) ?_;clear S;rintro h8 ⟨S,a1⟩;simp only [LC]at S;simp only [BZ];have a2: ∀c∈F6,¬c=br:=fun c d=>by
            rcases B c d with h|h
            . exact(f i c h).1
            . have:=a6 br (zO _ (XL));intro e;omega
           refine W _ F6 _ _ _ _ ⟨dK σ.sd i (fe (fun v=>pis.getD v 0) (σ.sd i) i v lab p),σ.ev,lab+m,v⟩ ?_ rfl rfl S (by rw [<-Q];exact(H6.mo a0 a2).mo a1 a2) ((E.mo a0 (fun c d=>(f _ c d).1)).mo a1 (fun c d=>(f _ c d).1)) B G I;rw [R,hM];exact(if_pos hlt).symm
         . have C: ¬((lab+m:Nat):Int)<(σ.dist:Int):=(by omega);simp only [BZ,cls,wo,io,ly,w,aL,C,S.ld (b:=y) (o:=1) m1 rfl,S.ld (b:=yb) (o:=5) m5 rfl,S.ld (b:=br) (o:=7) m0 rfl,seval];refine W _ F6 _ _ _ _ ⟨dK σ.sd i (fe (fun v=>pis.getD v 0) (σ.sd i) i v lab p),σ.ev,σ.dist,σ.meet⟩ ?_ rfl rfl S (by rw [<-Q];exact H6) E B G I;rw [R,hM];exact(if_neg hlt).symm
     | some l =>
       rw [hL]at D;simp only [XE,Xj,XW]at D;by_cases hle:l<=lab
       . have a3:(l:Int)<=(lab:Int):=(by omega);simp only [BZ,ho,D,O,Xw,a3,S.ld (b:=y) (o:=5) m1 rfl,S.ld (b:=y) (o:=7) m1 rfl,seval];exact T (by unfold dp;rw [if_pos (.inr (.inr (by rw [hL];exact decide_eq_true hle)))]) _ g1
       . have a3: ¬(l:Int)<=(lab:Int):=(by omega);have R:dp (fun v=>pis.getD v 0) i σ v lab p=rO ((σ.sd (!i)).L v) ⟨dK σ.sd i (fe (fun v=>pis.getD v 0) (σ.sd i) i v lab p),σ.ev,σ.dist,σ.meet⟩ v lab:=(by unfold dp;rw [if_neg (by rw [hL];rintro(h|h|h);exact hO h;exact h L;exact hle (of_decide_eq_true h))]);simp only [BZ,ho,D,O,Xw,a3,S.ld (b:=y) (o:=5) m1 rfl,S.ld (b:=y) (o:=7) m1 rfl,seval];refine ar (aw rfl) (q:=0) (ps:=[]) (by kernel_rfl) ?_;simp only [BZ,cls,S.ld (b:=y) (o:=5) m1 rfl,S.ld (b:=y) (o:=6) m1 rfl,seval];obtain⟨h2,n1,e1,af,bq,bs,_,S1,ba⟩:=S.mentI (i:=2) (x:=(v:Int)) rfl Tryz.t272.1 Tryz.t3.1 (z:=.int .i64 0) (by kernel_rfl) ML;refine mI (P:=fun h' v'=>h'=h2/\v'=.tuple #[(gl v).getD (.int .i64 0),.int .i64 (X9 n1)]) ⟨h2,_,e1,rfl,rfl⟩ ?_;rintro h' v' ⟨rfl,rfl⟩;clear S;have S:=S1;clear S1;simp only [LC]at S;obtain⟨J,ai,G⟩:=ba (.int .i64 (lab:Nat));simp only [BZ,cls,XG,seval];refine cM (S.mstoreI (i:=2) rfl ai) ?_;clear S;rintro h3 ⟨ak,S⟩;simp only [LC]at S;simp only [BZ,cls,seval];obtain⟨h4,n2,e2,al,bt,bu,_,S1,bb⟩:=S.mentI (i:=3) (x:=(v:Int)) rfl Tryz.t230.1 Tryz.t3.1 (z:=.int .i64 0) (by kernel_rfl) MA;refine mI (P:=fun h' v'=>h'=h4/\v'=.tuple #[(ga v).getD (.int .i64 0),.int .i64 (X9 n2)]) ⟨h4,_,e2,rfl,rfl⟩ ?_;rintro h' v' ⟨rfl,rfl⟩;clear S;have S:=S1;clear S1;simp only [LC]at S;obtain⟨K,ax,I⟩:=bb (.int .i64 (byI p));simp only [BZ,cls,XG,seval];refine cM (S.mstoreI (i:=3) rfl ax) ?_;clear S;rintro h5 ⟨ay,S⟩;simp only [LC]at S;simp only [BZ,bi,bk,a5,S.ld (b:=y) (o:=2) m1 rfl,S.ld (b:=y) (o:=0) m1 rfl,seval];have H5:=(((H.mo af (fun c d=>(f i c d).2.2.1)).mo ak (fun c d=>(f i c d).2.2.1)).mo al (fun c d=>(f i c d).2.2.2)).mo ay (fun c d=>(f i c d).2.2.2);have bc:=(((Hx.mo af (fun c d=>(f _ c d).2.2.1)).mo ak (fun c d=>(f _ c d).2.2.1)).mo al (fun c d=>(f _ c d).2.2.2)).mo ay (fun c d=>(f _ c d).2.2.2);refine step_ret (rE S.ok H5 (by omega) (bm l hL hO) (k:=2*(lab:Int)+kW i*pv) (by rw [Q];omega)) ?_;rintro r h6 ⟨f6,H6⟩;have B: ∀c∈F i,c∈F i\/h0.n<=c:=fun c d=>.inl d;have E:=bc.mo f6 (fun c d M=>(a.apart (!i) c d).2 (by rw [XT];exact M));replace S:=S.stepF f6 (fun c d=>⟨ac i c d,hk i c d⟩);simp only [BZ];refine ar (aw rfl) (q:=0) (ps:=[]) (by kernel_rfl) ?_;have wo:au .i64 (1-((jJ i:Nat):Int))=((jJ (!i):Nat):Int):=(by cases i<;>rfl);have io:iP (.int .i64 ((jJ (!i):Nat):Int)) 2=some (jJ (!i)):=ia (by cases i<;>decide);have ly:h6.load br (5+jJ (!i)) 1=some [ptrTo yb]:=S.ld (b:=br) m0 (by
          cases i
          . show some (ptrTo (X true).b)=_;rw [show X true=_ from hY]
          . show some (ptrTo (X false).b)=_;rw [show X false=_ from hY])
         obtain⟨gq,MQ,bd⟩:=Hq.ml;have w:=nK (x:=(v:Int)) Tryz.t272.1 Tryz.t3.1 (z:=.int .i64 0) (by kernel_rfl) (show h6.get yl=some (.map fl dl)from(S.own _ m6).2) MQ;rw [bd]at w;cases hM:(σ.sd (!i)).L v with
         | none=>
           rw [hM]at w;simp only [XR,Xw,XV]at w;simp only [BZ,cls,wo,io,ly,w,S.ld (b:=y) (o:=1) m1 rfl,S.ld (b:=yb) (o:=5) m5 rfl,seval];refine W _ (F i) _ _ _ _ ⟨dK σ.sd i (fe (fun v=>pis.getD v 0) (σ.sd i) i v lab p),σ.ev,σ.dist,σ.meet⟩ ?_ rfl rfl S (by rw [<-Q];exact H6) E B G I;rw [R,hM];rfl
         | some m=>
           have M:=hb _ v m hM;have aL:au .i64 ((lab:Int)+(m:Int))=((lab+m:Nat):Int):=(by rw [wrap64]<;>omega);rw [hM]at w;simp only [XE,Xj,XW]at w;by_cases hlt:lab+m<σ.dist
           . have C:((lab+m:Nat):Int)<(σ.dist:Int):=(by omega);simp only [BZ,cls,wo,io,ly,w,aL,C,S.ld (b:=y) (o:=1) m1 rfl,S.ld (b:=yb) (o:=5) m5 rfl,S.ld (b:=br) (o:=7) m0 rfl,seval];refine aE (aF S (i:=0) rfl Tryz.t2.2.2.1 aU (Xg (lbt rfl)) ono) ?_;clear S;rintro h7 ⟨S,a0⟩;simp only [LC]at S;simp only [BZ,seval];refine aE (aF S (i:=0) rfl Tryz.t3.2.2.1 aU (Xg (lbt rfl)) ono) ?_;clear S;rintro h8 ⟨S,a1⟩;simp only [LC]at S;simp only [BZ];have a2: ∀c∈F i,¬c=br:=fun c d=>by
              rcases B c d with h|h
              . exact(f i c h).1
              . have:=a6 br (zO _ (XL));intro e;omega
             refine W _ (F i) _ _ _ _ ⟨dK σ.sd i (fe (fun v=>pis.getD v 0) (σ.sd i) i v lab p),σ.ev,lab+m,v⟩ ?_ rfl rfl S (by rw [<-Q];exact(H6.mo a0 a2).mo a1 a2) ((E.mo a0 (fun c d=>(f _ c d).1)).mo a1 (fun c d=>(f _ c d).1)) B G I;rw [R,hM];exact(if_pos hlt).symm
           . have C: ¬((lab+m:Nat):Int)<(σ.dist:Int):=(by omega);simp only [BZ,cls,wo,io,ly,w,aL,C,S.ld (b:=y) (o:=1) m1 rfl,S.ld (b:=yb) (o:=5) m5 rfl,S.ld (b:=br) (o:=7) m0 rfl,seval];refine W _ (F i) _ _ _ _ ⟨dK σ.sd i (fe (fun v=>pis.getD v 0) (σ.sd i) i v lab p),σ.ev,σ.dist,σ.meet⟩ ?_ rfl rfl S (by rw [<-Q];exact H6) E B G I;rw [R,hM];exact(if_neg hlt).symm
 . have ho:decide (-(FAR:Int)<pv/\pv<FAR)=false:=decide_eq_false (by rw [<-hp];exact L);simp only [BZ,ho,D,S.ld (b:=y) (o:=5) m1 rfl,seval];exact T (by unfold dp;rw [if_pos (.inr (.inl L))]) _ g1
theorem cG.lo{h:Hp}{F:List Nat}{p:Value}{N x:Nat}{K:Nat->Option Int}(a:cG h F p N K):cG {h with lo:=x} F p N K:=by obtain⟨c,d,l,e,f,g,i,j⟩:=a.ex;exact⟨⟨c,d,l,e,f,g,i,j.imp (fun h=>h) (fun⟨m,b,e,k⟩=>⟨m,b,e,⟨k.row,k.ex,k.ne⟩⟩)⟩⟩
theorem Ae(k:OZ h0){p K:Nat}(L:aX h0 K (ptrTo p) γ){a:List Value}(R:Row h0 br a 1)(d:a[0]? =some (ptrTo p))(f:a.length=11){vA g:Value}(M:Fl vA)(O:Fl g):
 Ret zM 128 [ptrTo br,.int .i64 (jJ i:Nat),.int .i64 (v:Nat),.int .i64 (kW i),vA,g] h0 fun _ h'=>Mo (· =br) h0 h'/\ ∃(x:Sx) (F:List Nat),Row h' br (a.set (5+jJ i) (ptrTo x.b)) 1/\(∀q∈x.L i,Has h' q.1 q.2)/\x.vA=vA/\x.vH=g/\x.Ok iO/\cG h' F (ptrTo x.p) γ.nodes (fun _=>none)/\(∀c∈keys (x.L i) []++F,h0.n<=c)/\(keys (x.L i) []).Nodup/\ ∀c∈F,c∉keys (x.L i) []:=by
 have S:=St.init1 k (o:=.row a 1) R;have Q:=R.load1 (o:=0) d;refine aa (n:=32) (rs:=[]) rfl Tryz.e128 rfl rfl rfl (lbt rfl) ?_;simp only [BZ];refine ar (aw rfl) (q:=94400) (ps:=[]) (by kernel_rfl) ?_;simp only [BZ,cls,Q,seval];refine sK (bM (h0:={h0 with lo:=h0.n}) S.ok (L.keep k (fun _ _=>rfl))) ?_;intro l r;replace S:=S.call r;simp only [BZ,cls,seval];refine dq_ret (P:=fun v h'=> ∃F,cG h' F v γ.nodes (fun _=>none)/\ ∀b∈F,l.n<=b) ((ue (h0:={l with lo:=l.n}) S.ok (N:=γ.nodes)).mono fun v h' h=>⟨h.1,h.2.imp fun F h=>⟨h.1.lo,h.2⟩⟩) ?_;rintro s h2 m ⟨F,H,t⟩;replace S:=S.call m;have U:=S;replace S:=S.base;simp only [LC,keys,Xm,Xr,Xe]at S;have V:Fl s:=by obtain⟨_,_,_,rfl,_⟩:=H.ex;exact bH
 simp only [BZ,cls,seval];refine cL oq S ?_;clear S;intro h W S u w;simp only [BZ,cls,seval];refine cL oq S ?_;clear S;intro h X S y z;simp only [BZ,cls,seval];refine cL oq S ?_;clear S;intro h Y S A B;simp only [BZ,cls,V,M,O,seval];refine cL (bA (by intro x e;cases e)) S ?_;clear S;intro h Z S C D;simp only [ag]at S;have io:iP (.int .i64 ((jJ i:Nat):Int)) 2=some (jJ i):=ia (by cases i<;>decide);simp only [BZ,cls,io,seval];refine cM (aF S (i:=4) rfl Tryz.t207.2.2.1 bH (by rw [f];cases i<;>decide) ono) ?_;clear S;rintro E ⟨S,mo⟩;simp only [LC]at S;simp only [BZ,seval];have k2:=m.n;have k1:=r.n;obtain⟨G,ep⟩: ∃b,s=ptrTo b:=by obtain⟨b,_,_,e,_⟩:=H.ex;exact⟨b,e⟩
 subst ep;have lF:=H.lt m.ok;have zb:=R.lt k;have H9:cG E F (ptrTo G) γ.nodes (fun _=>none):=H.mo S.fr (fun c d j=>by
  have:=t c d;have:c=br:=by simpa using j
  omega)
 have I:=S.apart;simp only [keys,Xm,Xr,Xe,Xa,X6,Xk,Xf,or_false,not_or]at I;have T:St (· =br) h0 E _ _:=U.rebase S;refine⟨T.fr,⟨Z,G,W,X,Y,vA,g,[],0,[],0,[],0⟩,F,T.row m4,?_,rfl,rfl,?_,H9,?_,?_,?_⟩
 . intro q J;simp only [Sx.L,Sx.row,Xk,Xf,or_false]at J;rcases J with rfl|rfl|rfl|rfl
   . exact(T.own _ m0).2
   . exact(T.own _ m3).2
   . exact(T.own _ m2).2
   . exact(T.own _ m1).2
 . exact⟨⟨_,nJ,fun v=>rfl⟩,⟨_,nJ,fun v h=>by cases h⟩,⟨_,nJ,fun v=>(if_neg (by simp [iO])).symm⟩⟩
 . intro c d;rcases List.mem_append.1 d with d|d
   . simp only [Sx.L,keys,Xm,Xr,Xe,Xa,Xk,Xf,or_false]at d;rcases d with rfl|rfl|rfl|rfl<;>omega
   . have:=t c d;omega
 . simp only [Sx.L,keys,Xm,Xr,Xe,Xa,X6,Xk,Xf,or_false,not_or,List.nodup_nil,and_true,not_false_eq_true];obtain⟨⟨a1,a2,a3,a4⟩,⟨b1,b2,b3⟩,⟨c1,c2⟩,_⟩:=I;exact⟨⟨a3,a2,a1⟩,⟨fun e=>c1 e.symm,fun e=>b2 e.symm⟩,fun e=>b1 e.symm⟩
 . intro c d j;have:=lF c d;simp only [Sx.L,keys,Xm,Xr,Xe,Xa,Xk,Xf,or_false]at j;rcases j with rfl|rfl|rfl|rfl<;>omega
inductive NxtL(nx:Nat->Option (Nat×Nat)):Nat->List Nat->Prop where
 |nil {v:Nat}:nx v=none->NxtL nx v []
 |cons {v x w:Nat} {l:List Nat}:nx v=some (x,w)->NxtL nx w l->NxtL nx v (x::l)
def nxV:Option (Nat×Nat)->Value
 |none=>.tuple #[.int .i64 0,.int .i64 0,.bool false]|some (x,w)=>.tuple #[.int .i64 (x:Nat),.int .i64 (w:Nat),.bool true]
theorem chain_ok(L:OZ h0){g:FuncId}{post:Array Value}{nx:Nat->Option (Nat×Nat)}{D:Nat->Prop}(E: ∀h,Gr h0 h-> ∀v,D v->Ret zM g ([.int .i64 (v:Nat)]++post.toList) h fun r h'=>Gr h h'/\r=nxV (nx v))(M: ∀v x w,D v->nx v=some (x,w)->D w){l:List Nat}(i:D v)(p:NxtL nx v l)(F:l.length<=1000):
 Ret zM 211 [.int .i64 (v:Nat),.func (.func g) #[] post] h0 fun r h'=>Gr h0 h'/\ig h' (r,1,l.flatMap bO)/\ ∀c,av r c->h0.n<=c:=by
 have S:=Si L;refine aa (n:=28) (rs:=[.tmp 4]) rfl Tryz.e211 rfl rfl rfl (lbt rfl) ?_;simp only [BZ,seval];refine step_ret (E _ S.gr v i) ?_;rintro r Z ⟨N,rfl⟩;replace S:=S.call N;have q: ∀(o:Option (Nat×Nat)),∃x w b,nxV o=.tuple #[.int .i64 x,.int .i64 w,.bool b]:=fun o=>by
  rcases o with _|⟨x,w⟩
  . exact⟨_,_,_,rfl⟩
  . exact⟨_,_,_,rfl⟩
 obtain⟨O,P,Q,A⟩:=q (nx v);simp only [BZ,A,seval];replace S:=S.nilG (k:=1);refine bj (fun(a:List Nat) f h=> ∃done v x w b B,l=done++a/\D v/\NxtL nx v a/\nxV (nx v)=.tuple #[.int .i64 x,.int .i64 w,.bool b]/\St NoM h0 h [] [(B,1,eX done)]/\f 1=.func (.func g) #[] post/\f 4=B/\f 5=.int .i64 x/\f 6=.int .i64 w/\f 7=.bool b) (fun a=>a.length) ?_ l _ _ ?_
 . clear S p i A;intro a R f h ⟨done,v,x,w,b,B,t,i,p,e,S,r1,r4,r5,r6,r7⟩;cases p with
   | nil z=>
     rw [z]at e;simp only [nxV,Value.tuple.injEq,Array.mk.injEq,List.cons.injEq,Value.bool.injEq,Value.int.injEq]at e;obtain⟨⟨_,rfl⟩,⟨_,rfl⟩,rfl,_⟩:=e;simp only [BZ,ab,r4,r7,seval];rw [Xa]at t;subst t;refine⟨S.gr,(S.gown _ m0).1,fun c T=>?_⟩;exact((S.gown _ m0).2 c (mG (S.gown _ m0).1 T)).elim (fun h=>h) (fun h=>h.elim)
   | @cons _ y u d z U=>
     rw [z]at e;simp only [nxV,Value.tuple.injEq,Array.mk.injEq,List.cons.injEq,Value.bool.injEq,Value.int.injEq]at e;obtain⟨⟨_,rfl⟩,⟨_,rfl⟩,rfl,_⟩:=e;have G:done.length+(d.length+1)<=1000:=(by rw [t]at F;simpa using F);have H:=M _ _ _ i z;simp only [BZ,r4,r5,r7,seval];refine ae (ce (by exact Tryz.t41.1) (by exact Xp) (by decide) (by rfl)) S ?_;clear S;intro h I S J;simp only [LC,bJ,cq,ag,Xq,Xl,Xo,Xx,seval]at S;simp only [BZ,seval];have s:aR h 1 (.slice (some ⟨I,0,none⟩) 1 1)=some (1,eX [y]):=(by simp only [aR];rw [S.lds (b:=I) (o:=0) (n:=1*1) m0 (lbt rfl)];rfl);replace S:=S.drop1;refine dQ (S.grow (j:=0) (m:=1) (new:=eX [y]) rfl Tryz.t41.1 Xp (by decide) Tryz.t41.2.2.2.2.2 s rfl (by decide) rfl (by rw [nT,nT];simp;omega)) ?_;clear S s;rintro h C S;simp only [LC,<-A8]at S;simp only [BZ,r1,r6,seval];refine step_ret (E _ S.gr u H) ?_;rintro r h2 ⟨V,rfl⟩;replace S:=S.call V;obtain⟨W,X,Y,K⟩:=q (nx u);simp only [BZ,K,seval];exact R d _ _ (by simp) ⟨done++[y],u,W,X,Y,C,by rw [t];simp,H,U,K,S,by simp [aD,r1]⟩
 . exact⟨[],v,O,P,Q,.slice none 0 0,rfl,i,p,A,S,by simp [aD,c8]⟩
theorem head1_ok(d:OZ h0){a:Arc}:aT zM 130 [.agg ⟨di a⟩] h0 (.int .i64 (a.t:Nat)):=by have S:=Si d;refine aa (n:=5) (rs:=[.tmp 2]) rfl Tryz.e130 rfl rfl rfl (lbt rfl) ?_;simp only [BZ,di,seval];refine ae (bA (by intro x e;cases e)) S ?_;clear S;intro h f S c;simp only [ag]at S;simp only [BZ,ab,S.ld (b:=f) (o:=1) m0 rfl,seval];exact S.gr
theorem head2_ok(d:OZ h0){a:Arc}:aT zM 132 [.agg ⟨di a⟩] h0 (.int .i64 (a.s:Nat)):=by have S:=Si d;refine aa (n:=5) (rs:=[.tmp 2]) rfl Tryz.e132 rfl rfl rfl (lbt rfl) ?_;simp only [BZ,di,seval];refine ae (bA (by intro x e;cases e)) S ?_;clear S;intro h f S c;simp only [ag]at S;simp only [BZ,ab,S.ld (b:=f) (o:=0) m0 rfl,seval];exact S.gr
def nxB(A:List Arc)(i:Bool)(P:Nat->List Nat)(v:Nat):Option (Nat×Nat):=match P v with
 | []=>none|a::_=>some (a,fsB i (A.getD a default))
def nC(i:Bool):FuncId:=if i then 132 else 130
theorem B6(b:OZ h0){a:Arc}:aT zM (nC i) [.agg ⟨di a⟩] h0 (.int .i64 (ftB i a:Nat)):=by
 cases i
 . exact head1_ok b
 . exact head2_ok b
structure BkAt(h:Hp)(br:Nat)(pn:Value)(m:Nat)(i:Bool)(x:Sx)(s:Sd):Prop where
 l0:h.load br 0 1=some [pn]
 l10:h.load br 10 1=some [.int .i64 (m:Nat)]
 row:Row h x.b (x.row i) 1
 map:h.get x.ma=some (.map x.ea x.ca)
 ok:x.Ok s
theorem BkAt.gr{h h':Hp}{br:Nat}{pn:Value}{m:Nat}{i:Bool}{x:Sx}{s:Sd}(a:BkAt h br pn m i x s)(g:Gr h h'):BkAt h' br pn m i x s:=⟨g.load a.l0,g.load a.l10,a.row.gr g,g.at a.map,a.ok⟩
theorem fm.bk{X:Bool->Sx}{F:Bool->List Nat}(a:fm h br pn s t vPi X F vE N σ)(i:Bool):BkAt h br pn σ.meet i (X i) (σ.sd i):=by
 obtain⟨R,b⟩:=a.rows;refine⟨R.load1 (o:=0) rfl,R.load1 (o:=10) rfl,b i,?_,a.ok i⟩;have c:Has h (X i).ma (.map (X i).ea (X i).ca):=by
  cases i
  . exact a.own ((X false).ma,.map _ _) (by simp [boL,Sx.L])
  . exact a.own ((X true).ma,.map _ _) (by simp [boL,Sx.L])
 exact c
theorem back1_ok(t:OZ h0){F K:Nat}{x:Sx}{d:Sd}(L:aX h0 K (ptrTo F) γ)(f:Good γ)(a:BkAt h0 br (ptrTo F) m i x d)(M:x.vH=.func (.func (nC i)) #[] #[])
 {u:Nat} (N:h0.load b2 0 1=some [ptrTo br]) (k:h0.load u 0 1=some [ptrTo x.b]) (O:(d.L v).isSome=true) (P: ∀e∈d.P v,e<γ.arcs.length):
 Ret zM 212 ([.int .i64 (v:Nat)]++[ptrTo u,ptrTo b2]) h0 fun r h'=>Gr h0 h'/\r=nxV (nxB γ.arcs i d.P v):=by
 have S:=Si t;have n2:=f.n2;obtain⟨ga,Q,w⟩:=a.ok.ma;have A:=a.l0;have G:=a.row.load1 (o:=6) rfl;have B:=a.row.load1 (o:=4) rfl;rw [M]at B;have R:=a.map;have c:=lG (x:=(v:Int)) Tryz.t230.1 Tryz.t3.1 (z:=.int .i64 0) (by kernel_rfl) R Q;rw [w v O,Xj]at c;refine aa (n:=40) (rs:=[.tmp 4,.tmp 5,.tmp 6]) rfl Tryz.e212 rfl rfl rfl (lbt rfl) ?_;cases g:d.P v with
 | nil=>rw [g]at c;replace c:dC _ h0 _ _ _ _=some (.int .i64 (-1)):=c;simp only [BZ,ab,k,G,c,seval];exact⟨S.gr,by unfold nxB;rw [g];rfl⟩| cons e l=>
   rw [g]at c;replace c:dC _ h0 _ _ _ _=some (.int .i64 (e:Nat)):=c;have C:=P e (by rw [g];simp);have T: ¬((e:Int)<0):=(by omega);simp only [BZ,k,G,c,T,N,A,seval];refine step_ret (kC S.ok L C) ?_;rintro r h1 ⟨U,rfl⟩;replace S:=S.call U;obtain⟨V,W,X⟩:=f.arcs _ (XB C);have j:γ.arcs.getD e default=γ.arcs[e]:=(by simp [Xd,C]);generalize γ.arcs[e]=y at V W X j;simp only [BZ,di,seval];refine ae aA S ?_;clear S;intro h p S H;simp only [BZ,seval];refine aE (S.store (i:=0) rfl ?_ ?_ rfl rfl ?_ ono) ?_
   . exact(by exact Tryz.t96.2.1)
   . exact(by intro x e;cases e)
   . exact lbt rfl
   clear S;rintro h ⟨S,Y⟩;clear Y;simp only [LC,ag,lay,XJ,XK,seval]at S;have D:=S.old k (fun h=>h);have E:=S.old B (fun h=>h);have z3:=bC t k;have z4:=bC t B;have Z:au .i64 ((y.s:Int)+(y.t:Int))=(y.s:Int)+(y.t:Int):=(by rw [wrap64]<;>omega);have w2:au .i64 ((y.s:Int)+(y.t:Int)-(ftB i y:Int))=((fsB i y:Nat):Int):=(by cases i<;>simp only [ftB,fsB,if_true,if_false,XU]<;>rw [wrap64]<;>omega);simp only [BZ,seval];refine ar (aw rfl) (q:=0) (ps:=[(4,11),(2,11)]) (by kernel_rfl) ?_;simp only [BZ,cls,D,E,Z,S.ld (b:=p) (o:=0) m0 rfl,S.ld (b:=p) (o:=1) m0 rfl,S.lds (b:=p) (o:=0) (n:=3) m0 (lbt rfl),seval];have k8:=(S.row (b:=p) m0).lt S.ok;have n0:=S.gr.n;refine bg (B6 (a:=y) S.ok) ?_;intro h9 s;have I:=ah s (show u<_ by omega);have J:=ah s (show x.b<_ by omega);have e3:=ah s k8;replace S:=S.call s;simp only [BZ,cls,ab,w2,seval];refine⟨by simp only [aK,aO,aH,aQ,aJ,ne_eq,not_false_eq_true,aS,bz,aN,aM,bG,bS,aC,Xs,an,ao I,aq I,ao J,aq J,ao e3,aq e3,seval],?_⟩;refine⟨S.gr,?_⟩;unfold nxB;rw [g];simp only [j];rfl
theorem back_ok(C:OZ h0){E:Nat}{x:Sx}{d:Sd}(F:aX h0 E (ptrTo t) γ)(k:Good γ)(a:BkAt h0 br (ptrTo t) m i x d)(G:x.vH=.func (.func (nC i)) #[] #[])
 {D:Nat->Prop} (f: ∀v,D v->(d.L v).isSome=true/\ ∀e∈d.P v,e<γ.arcs.length) (l: ∀v y w,D v->nxB γ.arcs i d.P v=some (y,w)->D w) (H:D m) (p:NxtL (nxB γ.arcs i d.P) m (d.P m)) (I:(d.P m).length<=1000):
 Ret zM 136 [ptrTo br,ptrTo x.b] h0 fun r h'=>Gr h0 h'/\ig h' (r,1,(d.P m).flatMap bO)/\ ∀c,av r c->h0.n<=c:=by
 have S:=Si C;have q:=a.l10;refine aa (n:=11) (rs:=[.tmp 4]) rfl Tryz.e136 rfl rfl rfl (lbt rfl) ?_;simp only [BZ,seval];refine ae (bN (by exact bH)) S ?_;clear S;intro h s S u;simp only [BZ,if_false,seval];refine ae (bN (by exact bH)) S ?_;clear S;intro h z S A;have j:=S.old q (fun h=>h);simp only [BZ,j,S.ld (b:=s) (o:=0) m1 rfl,seval];have J:=S.gr.n;have K:=S.ld (b:=s) (o:=0) m1 rfl;have e3:=S.ld (b:=z) (o:=0) m0 rfl;refine step_ret (chain_ok S.ok (g:=212) (post:=#[ptrTo z,ptrTo s]) (nx:=nxB γ.arcs i d.P) (D:=D) (fun h' g v B=>back1_ok g.ok (F.gr (S.gr.trans g)) k (a.gr (S.gr.trans g)) G (g.load K) (g.load e3) (f v B).1 (f v B).2) l H p I) ?_;rintro r P ⟨L,M,N⟩;simp only [BZ,ab,seval];exact⟨S.gr.trans L,M,fun c O=>XA J (N c O)⟩
section
variable{A:List Arc}{N:Nat}{al:Nat->Bool}{pi:Nat->Int}{σ:Bi}{rt:Bool->Nat}
structure KeB(b:Bool)(σ τ:Bi):Prop where
 O:(τ.sd b).O=(σ.sd b).O
 L: ∀v∈(σ.sd b).O,(τ.sd b).L v=(σ.sd b).L v/\(τ.sd b).P v=(σ.sd b).P v
 ot:τ.sd (!b)=σ.sd (!b)
theorem KeB.refl:KeB b σ σ:=⟨rfl,fun _ _=>⟨rfl,rfl⟩,rfl⟩
theorem KeB.trans{b:Bool}{τ c:Bi}(h:KeB b σ τ)(g:KeB b τ c):KeB b σ c:=
 ⟨g.O.trans h.O,fun v a=>⟨(g.L v (h.O▸a)).1.trans (h.L v a).1,(g.L v (h.O▸a)).2.trans (h.L v a).2⟩,g.ot.trans h.ot⟩
theorem uZ:KeB b σ (dp pi b σ v lab p):=by
 unfold dp
 split
 . exact .refl
 . rename_i a;simp only [not_or,Decidable.not_not]at a;refine⟨?_,fun u c=>?_,?_⟩
   . rw [rB.1];show(dK σ.sd b _ b).O=_;rw [fg];rfl
   . rw [rB.1];show(dK σ.sd b _ b).L u=_/\(dK σ.sd b _ b).P u=_;rw [fg];have e:u≠v:=fun e=>a.1 (e▸c);exact⟨if_neg e,if_neg e⟩
   . rw [rB.1];exact nQ
theorem evB_I{e:Ev2}(h:BiI A N rt al pi σ):BiI A N rt al pi (evB σ e):=⟨h.sv,h.dm,h.le⟩
def tZ(σ:Bi)(b:Bool)(v m:Nat):Prop:=v∈(σ.sd b).O/\(σ.sd b).L v=some m/\m+cH<=(σ.sd b).O.length*cH/\((σ.sd b).P v).length+1<=(σ.sd b).O.length
theorem tZ.ke(r:tZ σ b v m)(k:KeB b σ τ):tZ τ b v m:=by obtain⟨a,c,d,e⟩:=r;exact⟨by rw [k.O];exact a,by rw [(k.L v a).1];exact c,by rw [k.O];exact d,by rw [k.O,(k.L v a).2];exact e⟩
theorem Bx(j:N<=12)(k: ∀a∈A,a.s<N/\a.t<N/\a.w<=cH)(h:BiI A N rt al pi σ)(r:tZ σ b v m)(l:a<A.length)(d:fsB b (A.getD a default)=v):
 BiI A N rt al pi (gD A al pi b v σ a)/\KeB b σ (gD A al pi b v σ a):=by
 unfold gD
 split
 . rename_i e;obtain⟨n,i,s,o⟩:=r;have q:A.getD a default∈A:=(by grind);obtain⟨t,u,w⟩:=k _ q;have c:labB σ b v=m:=(by unfold labB;rw [i];rfl);have f:ftB b (A.getD a default)<N:=(by unfold ftB;grind);have g:=uZ (pi:=pi) (σ:=evB σ ⟨1,b,a,0⟩) (b:=b) (v:=ftB b (A.getD a default)) (lab:=labB σ b v+(A.getD a default).w) (p:=a::(σ.sd b).P v);refine⟨(evB_I h).reach j f ?_ ?_ (.inr ⟨a,m,l,e,rfl,?_,?_,?_,?_⟩),⟨g.O,g.L,g.ot⟩⟩
   . show labB σ b v+_<=(σ.sd b).O.length*cH;omega
   . show((σ.sd b).P v).length+1<=(σ.sd b).O.length;exact o
   . rw [d];exact n
   . rw [d];rfl
   . rw [d];exact i
   . rw [c]
 . exact⟨h,.refl⟩
theorem BG{b:Bool}{v m:Nat}(d:N<=12)(e: ∀a∈A,a.s<N/\a.t<N/\a.w<=cH): ∀(l:List Nat) {σ:Bi},BiI A N rt al pi σ->tZ σ b v m->(∀a∈l,a<A.length/\fsB b (A.getD a default)=v)->
 BiI A N rt al pi (l.foldl (gD A al pi b v) σ)/\KeB b σ (l.foldl (gD A al pi b v) σ)
 | [],_,h,_,_=>⟨h,.refl⟩| a::l,σ,h,r,c=>by obtain⟨g,f⟩:=Bx d e h r (c a XL).1 (c a XL).2;obtain⟨i,j⟩:=BG d e l g (r.ke f) (fun x k=>c x (List.mem_cons_of_mem _ k));exact⟨i,f.trans j⟩
theorem Cq{k:Int}(h:BiI A N rt al pi σ)(z:(σ.sd b).K v=some k):BiI A N rt al pi (cS σ b v)/\ ∃m,tZ (cS σ b v) b v m/\(σ.sd b).L v=some m/\k=2*(m:Int)+qB pi b v/\v∉(σ.sd b).O:=by
 have c:=h.sv b;obtain⟨B,m,w,o⟩:=c.op v k z;obtain⟨L,M,O,P,Q⟩:=c.lab v m w;have p: ∀i u,((cS σ b v).sd i).L u=(σ.sd i).L u:=fun i u=>by
  show(dK σ.sd b _ i).L u=_;by_cases e:i=b
  . subst e;rw [fg]
  . rw [zz e]
 refine⟨⟨fun i=>?_,?_,fun i u x y f q=>?_⟩,m,⟨?_,by grind,?_,?_⟩,w,o,B⟩
 . show SvB A N (rt i) al pi i (dK σ.sd b _ i);by_cases e:i=b
   . subst e;rw [fg];have C:((σ.sd i).O++[v]).length*cH=(σ.sd i).O.length*cH+cH:=(by grind);refine⟨?_,fun u g=>?_,fun u j n=>?_,fun u l r=>?_,fun u l r=>?_⟩
     . rw [List.nodup_append];exact⟨c.nd,by simp,fun x f y q e=>by grind⟩
     . rcases List.mem_append.1 g with g|g
       . exact c.lt u g
       grind
     . by_cases e:u=v
       . subst e;simp [dq]at n
       . have n:(σ.sd i).K u=some j:=(by simpa [dq,e]using n);obtain⟨s,t⟩:=c.op u j n;grind
     . obtain⟨s,t,D,E,F⟩:=c.lab u l r;refine⟨s,t,by show l<=((σ.sd i).O++[v]).length*cH;omega,by grind,?_⟩;grind[Xh,List.mem_singleton,zO,dq]
     . rcases c.path u l r with G|⟨a,j,s,t,D,E,F⟩
       . exact .inl G
       grind
   . rw [zz e];exact h.sv i
 . rcases h.dm with⟨H,R⟩|d
   . exact .inl ⟨H,fun i u x f=>by grind⟩
   . exact .inr fun i=>by obtain⟨x,y,I,J,K⟩:=d i;exact⟨x,y,by rw [p];exact I,by rw [p];exact J,K⟩
 . rw [p]at f q;exact h.le i u x y f q
 . show v∈(dK σ.sd b _ b).O;rw [fg];grind
 . show m+cH<=(dK σ.sd b _ b).O.length*cH;grind[fg,cH,XD,X7,Nat.succ_mul]
 . show((dK σ.sd b _ b).P v).length+1<=(dK σ.sd b _ b).O.length;grind[fg,XD,X7]
theorem Ak:a∈outs A (fsB b) A.length v↔a<A.length/\fsB b (A.getD a default)=v:=mL
theorem stepB_I{k:Int}(c:N<=12)(d: ∀a∈A,a.s<N/\a.t<N/\a.w<=cH)(h:BiI A N rt al pi σ)(e:(σ.sd b).K v=some k):
 BiI A N rt al pi (kE A al pi b v (cS σ b v))/\KeB b (cS σ b v) (kE A al pi b v (cS σ b v)):=by
 obtain⟨f,m,r,_⟩:=Cq h e;exact BG c d _ f r (fun a g=>Ak.1 g)
def InB(A:List Arc)(al:Nat->Bool)(pi:Nat->Int)(a:Nat):Prop:=al a=true/\OpB pi (A.getD a default).s/\OpB pi (A.getD a default).t
instance (a:Nat):Decidable (InB A al pi a):=by unfold InB;infer_instance
def hB(A:List Arc)(al:Nat->Bool)(pi:Nat->Int)(b:Bool):List Arc:=((XM A.length).filter fun a=>decide (InB A al pi a)).map fun a=>⟨fsB b (A.getD a default),ftB b (A.getD a default),(A.getD a default).w⟩
end
section
variable{A:List Arc}{N:Nat}{al:Nat->Bool}{pi:Nat->Int}{σ:Bi}{rt:Bool->Nat}
theorem clo_b:(cS σ b v).sd b=⟨dq (σ.sd b).K v none,(σ.sd b).L,(σ.sd b).P,(σ.sd b).O++[v]⟩:=fg
theorem clo_n:(cS σ b v).sd (!b)=σ.sd (!b):=nQ
theorem ends_I(b:N<=12)(c: ∀a∈A,a.s<N/\a.t<N/\a.w<=cH)(d:kL A al pi σ τ):BiI A N rt al pi σ->BiI A N rt al pi τ:=by
 induction d with
 |stop _=>exact fun h=>h
 |step _ e _ f=>exact fun h=>f (stepB_I b c h e.1).1
end
def rtB(s t:Nat)(i:Bool):Nat:=if i then t else s
def pQ(σ:Bi):List Nat:=((σ.sd false).P σ.meet).reverse++(σ.sd true).P σ.meet
section
variable{A:List Arc}{N s t:Nat}{al:Nat->Bool}{pi:Nat->Int}{σ:Bi}
theorem zP:BiI A N (rtB s t) al pi ⟨fun _=>iO,[],FAR,0⟩:=
 ⟨fun i=>⟨.nil,fun v c=>(by cases c),fun v k d=>(by cases d),fun v l a=>(by cases a),fun v l a=>(by cases a)⟩,.inl ⟨rfl,fun i v x b=>rfl⟩,fun i v x y b=>(by cases b)⟩
theorem initB_I(a:N<=12)(c:s<N)(d:t<N):BiI A N (rtB s t) al pi (mX pi s t):=
 (zP.reach (b:=false) (p:=[]) (lab:=0) a c (Xi _) (Xi _) (.inl ⟨rfl,rfl,rfl⟩)).reach (b:=true) (p:=[]) (lab:=0) a d (Xi _) (Xi _) (.inl ⟨rfl,rfl,rfl⟩)
theorem initB_O(i:Bool):((mX pi s t).sd i).O=[]:=by
 have a:=uZ (pi:=pi) (σ:=⟨fun _=>iO,[],FAR,0⟩) (b:=false) (v:=s) (lab:=0) (p:=[]);have c:=uZ (pi:=pi) (σ:=dp pi false ⟨fun _=>iO,[],FAR,0⟩ s 0 []) (b:=true) (v:=t) (lab:=0) (p:=[]);cases i
 . have:=c.ot;show((dp pi true _ t 0 []).sd (!true)).O=[];rw [this];exact a.O
 . exact c.O.trans (by rw [show(true:Bool)=(!false)from rfl,a.ot];rfl)
theorem initB_ev:(mX pi s t).ev=[]:=by grind[dp,rB,mX]
theorem SvB.pathF{x:Sd}(h:SvB A N s al pi false x): ∀(n:Nat) {v l:Nat},(x.P v).length<=n->x.L v=some l->rJ A s (x.P v).reverse v l:=by
 intro n
 induction n with
 | zero=>
   intro v l c b;rcases h.path v l b with⟨rfl,d,rfl⟩|⟨a,m,_,_,_,_,e,_⟩
   . rw [d];exact .nil
   grind
 | succ n f=>
   intro v l c b;rcases h.path v l b with⟨rfl,d,rfl⟩|⟨a,m,g,_,i,_,e,j,k⟩
   . grind
   . rw [e]at c⊢;rw [k,List.reverse_cons,<-i];exact .snoc (f (by grind) j) g
theorem SvB.pathT{x:Sd}(h:SvB A N t al pi true x): ∀(n:Nat) {v l w:Nat} {b:List Nat},(x.P v).length<=n->x.L v=some l->rJ A s b v w->rJ A s (b++x.P v) t (w+l):=by
 intro n
 induction n with
 | zero=>
   intro v l w b e c f;rcases h.path v l c with⟨rfl,i,rfl⟩|⟨a,m,_,_,_,_,g,_⟩
   . grind
   grind
 | succ n j=>
   intro v l w b e c f;rcases h.path v l c with⟨rfl,i,rfl⟩|⟨a,m,k,_,d,_,g,o,p⟩
   . grind
   . rw [g]at e⊢;have d:(A.getD a default).s=v:=d;have:=j (by grind) o (.snoc (by rw [d];exact f) k);grind
theorem D5(h:BiI A N (rtB s t) al pi σ)(g:σ.dist<FAR):rJ A s (pQ σ) t σ.dist/\(pQ σ).length<=2*N:=by
 rcases h.dm with⟨d,_⟩|d
 . omega
 . obtain⟨x,y,a,b,c⟩:=d false;have e:=(show SvB A N s al pi false (σ.sd false)from h.sv false).pathF _ (XH _) a;have f:=(show SvB A N t al pi true (σ.sd true)from h.sv true).pathT _ (XH _) b e;rw [c];refine⟨f,?_⟩;have i:=((h.sv false).lab _ _ a).2.2.2.1;have j:=((h.sv true).lab _ _ b).2.2.2.1;have k:=(h.sv false).len;have l:=(h.sv true).len;unfold pQ;grind
theorem reachB_ev:(dp pi b σ v lab p).ev=σ.ev:=by grind[dp,rB]
end
theorem BiI.distLe{b:Bool->Nat}(h:BiI A N b al pi σ)(a:N<=12):σ.dist<=FAR:=by
 have g:=gX;have i:=jT;rcases h.dm with⟨e,_⟩|c
 . omega
 . obtain⟨x,y,d,f,e3⟩:=c false;have j:=((h.sv false).lab _ x d).2.2.1;have k:=((h.sv (!false)).lab _ y f).2.2.1;have l:=Xn cH (XA (h.sv false).len a);have m:=Xn cH (XA (h.sv (!false)).len a);omega
theorem SvB.has{x:Sd}(h:SvB A N r al pi i x){l:Nat}(a:x.L v=some l)(c:v∉x.O):x.K v=some (2*(l:Int)+qB pi i v):=by
 have d:=((h.lab v l a).2.2.2.2).resolve_left c;cases b:x.K v with
 |none=>exact absurd b d| some k=>
   obtain⟨_,g,e,f⟩:=h.op v k b;rw [a]at e;cases e;rw [f]
theorem SvB.hasNo{x:Sd}(h:SvB A N r al pi i x)(a:x.L v=none):x.K v=none:=by
 cases b:x.K v with
 |none=>rfl| some k=>
   obtain⟨_,c,e,d⟩:=h.op v k b;rw [a]at e;cases e
theorem tT(f:OZ h0){X:Bool->Sx}{F:Bool->List Nat}(a:fm h0 br pn s t vPi X F vE N σ)
 (g:az h0 1 (encI .i64) vPi pis) (k:pis.length=N\/pis=[]/\vPi=.slice none 0 0) (m: ∀c,av vPi c->c∉boB br pn s t vPi X F vE σ) (d:N<=12)  {n:Bool->Nat}  (I:BiI A N n al (fun v=>pis.getD v 0) σ)    (o:v<N) (e:lab<=13*cH):
 Ret zM 133 [ptrTo br,ptrTo (X i).b,.int .i64 (v:Nat),.int .i64 (byI p),.int .i64 (lab:Nat)] h0 fun _ h'=>Mo (· ∈boB br pn s t vPi X F vE σ) h0 h'/\ ∃b F',fm h' br pn s t vPi b F' vE N (dp (fun v=>pis.getD v 0) i σ v lab p)/\(∀j,(b j).b=(X j).b/\(b j).vA=(X j).vA/\(b j).vH=(X j).vH)/\ ∀c∈boB br pn s t vPi b F' vE (dp (fun v=>pis.getD v 0) i σ v lab p),c∈boB br pn s t vPi X F vE σ\/h0.n<=c:=
 breach_ok f a g k m d o e (I.distLe d) (fun j u l q=>by
  have w:=((I.sv j).lab u l q).2.2.1;have x:=Xn cH (XA (I.sv j).len d);have y:=jT;omega) (fun l e r=>(I.sv i).has e r) (fun h=>(I.sv i).hasNo h)
theorem note_look{ρ:Operand->Value}{a:Bool}{t:TypeId}{m k:Operand}{h':Hp}:cV ρ b (.lookup t m k a) h h'=(match ρ m with| .map (some r)=>some (.blk r)|_=>none):=by simp only [cV,dS,j7,fZ,touch,cond_false];cases ρ m<;>first|rfl|(rename_i x;cases x<;>rfl)
theorem xw{A:List Arc}{al:Nat->Bool}{pi:Nat->Int}{b:Bool}{v:Nat}: ∀(l:List Nat) {σ:Bi},(l.foldl (gD A al pi b v) σ).ev.length<=σ.ev.length+l.length
 | [],_=>XH _| a::l,σ=>by
   have h:=xw (A:=A) (al:=al) (pi:=pi) (b:=b) (v:=v) l (σ:=gD A al pi b v σ a);have c:(gD A al pi b v σ a).ev.length<=σ.ev.length+1:=by
    unfold gD
    split
    . rw [reachB_ev];simp [evB]
    . omega
   rw [List.foldl_cons,List.length_cons];omega
theorem uF: ∀e:Ev2,(jz e).length=4:=fun _=>rfl
def outF(i:Bool):FuncId:=if i then 131 else 129
theorem outF_ok(b:OZ h0){p:Value}{e:Nat}(c:aX h0 e p γ)(a:γ.arcs.length<1000)(d:v<γ.nodes):Ret zM (outF i) [p,.int .i64 v] h0 fun r h'=>Gr h0 h'/\az h' 1 bO r (outs γ.arcs (fsB i) γ.arcs.length v)/\ ∀c,av r c->h0.n<=c:=by
 cases i
 . exact uR b c a d
 . exact xt b c a d
theorem fm.lt{h:Hp}(b:OZ h){br:Nat}{pn:Value}{s t:Nat}{vPi:Value}{X:Bool->Sx}{F:Bool->List Nat}{vE:Value}{N:Nat}{σ:Bi}(a:fm h br pn s t vPi X F vE N σ): ∀c∈boB br pn s t vPi X F vE σ,c<h.n:=fun c d=>
 (List.mem_append.1 d).elim (fun h=>(a.st b false).key_lt h) (fun h=>(List.mem_append.1 h).elim (fun h=>(a.heap false).lt b c h) (fun h=>(a.heap true).lt b c h))
theorem bo_fin{h':Hp}{X:Bool->Sx}{F:Bool->List Nat}(a:fm h0 br pn s t vPi X F vE N σ){x2:Sx}(e:x2.b=(X i).b/\x2.vA=(X i).vA/\x2.vH=(X i).vH){y:Sd}(k:τ.sd=dK σ.sd i y){vE2:Value}{F6:List Nat}
 (S:St (· ∈boB br pn s t vPi X F vE σ) h0 h' ((br,.row (ij pn s t vPi X vE2 τ) 1)::(x2.L i++(X (!i)).L (!i))) (boG vE2 τ)) (z:cG h' F6 (ptrTo x2.p) N y.K) (v:cG h' (F (!i)) (ptrTo (X (!i)).p) N (σ.sd (!i)).K) (w:x2.Ok y)
 (x: ∀c∈F6,c∈F i\/h0.n<=c) (l: ∀c∈F6,c∉keys ((br,Ob.row (ij pn s t vPi X vE2 τ) 1)::(x2.L i++(X (!i)).L (!i))) (boG vE2 τ)/\c∉F (!i)) (n: ∀c∈F (!i),c∉keys ((br,Ob.row (ij pn s t vPi X vE2 τ) 1)::(x2.L i++(X (!i)).L (!i))) (boG vE2 τ)):
 ∃f F',fm h' br pn s t vPi f F' vE2 N τ/\(∀j,(f j).b=(X j).b/\(f j).vA=(X j).vA/\(f j).vH=(X j).vH)/\ ∀c∈boB br pn s t vPi f F' vE2 τ,c∈boB br pn s t vPi X F vE σ\/h0.n<=c:=by
 have g: ∀j:Bool,j≠i->j= !i:=fun j h=>tF h;have o:(!i)≠i:=not_ne
 let f:Bool->Sx:=fun j=>if j=i then x2 else X j
 let F':Bool->List Nat:=fun j=>if j=i then F6 else F j
 have p:f i=x2:=if_pos rfl;have q:f (!i)=X (!i):=if_neg o;have r:F' i=F6:=if_pos rfl;have u:F' (!i)=F (!i):=if_neg o;have m: ∀j,(f j).b=(X j).b/\(f j).vA=(X j).vA/\(f j).vH=(X j).vH:=fun j=>by
  by_cases d:j=i
  . subst d;rw [p];exact e
  . rw [g j d,q];exact⟨rfl,rfl,rfl⟩
 have A:boL i br pn s t vPi f vE2 τ=(br,.row (ij pn s t vPi X vE2 τ) 1)::(x2.L i++(X (!i)).L (!i)):=by simp only [boL,ij,p,q,(m false).1,(m true).1]
 rw [<-A]at S l n;refine⟨f,F',fm.of i S (fun j=>?_) (fun j=>?_) (fun j c b=>?_),m,fun c b=>?_⟩
 . by_cases d:j=i
   . subst d;rw [r,p,k,fg];exact z
   . rw [g j d,u,q,k,nQ];exact v
 . by_cases d:j=i
   . subst d;rw [p,k,fg];exact w
   . rw [g j d,q,k,nQ];exact a.ok _
 . by_cases d:j=i
   . subst d;rw [r]at b;rw [u];exact l c b
   . rw [g j d]at b⊢;rw [u]at b;rw [XT,r];exact⟨n c b,fun B=>(l c B).2 b⟩
 . have hB: ∀j,∀c∈F' j,c∈boB br pn s t vPi X F vE σ\/h0.n<=c:=fun j c b=>by
    by_cases d:j=i
    . subst d;rw [r]at b;exact(x c b).elim (fun h=>.inl (qX h)) .inr
    . rw [g j d,u]at b;exact .inl (qX b)
   rcases List.mem_append.1 b with b|b
   . refine(S.key_own ?_).symm;unfold keys at b⊢;rcases List.mem_append.1 b with h|h
     . exact zO _ (((pd i).map _).mem_iff.2 h)
     . exact Xh _ h
   . rcases List.mem_append.1 b with b|b
     . exact hB _ c b
     . exact hB _ c b
theorem bstep_ok {hq:Hp} (gq:Gr hq h0) {g nb:Nat}    {X:Bool->Sx} {F:Bool->List Nat}    (D:Good γ) (hn:aX hq nb (ptrTo g) γ) (a:fm h0 br (ptrTo g) s t vPi X F vE γ.nodes σ) (hB: ∀c∈boB br (ptrTo g) s t vPi X F vE σ,hq.n<=c)
 (sP:az hq 1 (encI .i64) vPi pis) (lP:pis.length=γ.nodes\/pis=[]/\vPi=.slice none 0 0) {rt:Bool->Nat} (I:BiI γ.arcs γ.nodes rt (fun _=>true) (fun v=>pis.getD v 0) σ) (cA:σ.ev.length<=100000)   {k:Int} (hp:oe (σ.sd i).K v k) (hA:(X i).vA=.func (.func (outF i)) #[ptrTo g] #[]) (hH:(X i).vH=.func (.func (nC i)) #[] #[]):
 Ret zM 135 [ptrTo br,ptrTo (X i).b] h0 fun _ h'=>Mo (· ∈boB br (ptrTo g) s t vPi X F vE σ) h0 h'/\ ∃X' F' B,fm h' br (ptrTo g) s t vPi X' F' B γ.nodes (kE γ.arcs (fun _=>true) (fun v=>pis.getD v 0) i v (cS σ i v))/\(∀j,(X' j).b=(X j).b/\(X' j).vA=(X j).vA/\(X' j).vH=(X j).vH)/\ ∀c∈boB br (ptrTo g) s t vPi X' F' B (kE γ.arcs (fun _=>true) (fun v=>pis.getD v 0) i v (cS σ i v)),c∈boB br (ptrTo g) s t vPi X F vE σ\/h0.n<=c:=by
 have ok:=gq.ok;have n2:=D.n2;have S:=a.st ok i;have Ho:=a.ok i;have H:=a.heap i;have Hx:=a.heap (!i);have hk:=fun j c (d:c∈F j)=>a.apart' i d;have ba: ∀j,∀c∈F j,c∈boB br (ptrTo g) s t vPi X F vE σ\/h0.n<=c:=fun j c d=>.inl (qX d);generalize ai:boB br (ptrTo g) s t vPi X F vE σ=BB at S ba;rcases hX:X i with⟨xb,xp,xl,xa,xc,vA,vH,el,cl,ea,ca,ec,cc⟩;rcases hY:X (!i)with⟨yb,yp,yl,ya,yc,wA,wH,fl,dl,fa,da,fc,dc⟩;rw [hX]at Ho H hA hH;rw [hY]at Hx;obtain⟨gl,ML,bb⟩:=Ho.ml;obtain⟨gc,MC,bc⟩:=Ho.mc;simp only []at ML MC hA hH;subst hA hH;simp only [LC,boL,boG,ij,Sx.L,Sx.row,hX,hY]at S hk;have cI:=fun c d=>S.key_lt (b:=c) d;obtain⟨bY,l,ak,cN⟩:=(I.sv i).op v k hp.1;have b0:=((I.sv i).lab v l ak).1;refine aa (n:=125) (rs:=[]) rfl Tryz.e135 rfl rfl rfl (lbt rfl) ?_;simp only [BZ,S.ld (b:=xb) (o:=0) m1 rfl,seval];refine step_ret (sZ S.ok H (by omega)) ?_;rintro rv h2 (⟨_,ax,_⟩|⟨v',k',rfl,b1,bd,f2,H2⟩)
 . exact absurd ((ax v).symm.trans hp.1) (by nofun)
 . obtain ⟨rfl,rfl⟩:=hp.uniq (⟨b1,bd⟩:oe (σ.sd i).K v' k');replace S:=S.stepF f2 (fun c d=>⟨ba i c d,hk i c d⟩);have be:=Hx.mo f2 (fun c d f=>(a.apart (!i) c d).2 (by rw [XT];exact f));have S2:=S;have b2:=H2.lt S2.ok;have b3:=be.lt S2.ok;replace S:=S.base;have bf:=lG (x:=(v:Int)) Tryz.t230.1 Tryz.t3.1 (z:=.int .i64 0) (by kernel_rfl) (show h2.get xc=some (.map ec cc)from(S.own _ m4).2) MC;rw [bc,if_neg bY,Xw]at bf;have w1:au .i64 ((0:Int)+1)=1:=rfl;simp only [BZ,bf,S.ld (b:=xb) (o:=7) m1 rfl,seval];refine aE (S.mputI (i:=4) rfl Tryz.t230.1 Tryz.t3.1 MC _) ?_;clear S;rintro h3 ⟨cO,b4,b5,b6,S⟩;simp only [LC]at S;have bh:=lG (x:=(v:Int)) Tryz.t272.1 Tryz.t3.1 (z:=.int .i64 0) (by kernel_rfl) (show h3.get xl=some (.map el cl)from(S.own _ m2).2) ML;rw [bb,ak,XE,Xj]at bh;have cT:Fl vE:=(S.gown _ m0).1.fl;simp only [BZ];refine ar (aw rfl) (q:=262144) (ps:=[]) (by kernel_rfl) ?_;simp only [BZ,cls,bh,S.ld (b:=br) (o:=9) m0 rfl,S.ld (b:=xb) (o:=1) m1 rfl,S.ld (b:=xb) (o:=5) m1 rfl,seval];refine cL (ce (by exact Tryz.t44.1) (by exact X8) (by decide) (by rfl)) S ?_;clear S;intro h bs S bi bk;simp only [LC,bJ,cq,ag,Xq,Xl,Xo,Xx,seval]at S;simp only [BZ,cls,seval];have G:aR h 4 (.slice (some ⟨bs,0,none⟩) 1 1)=some (1,jz ⟨0,i,v,l⟩):=(by simp only [aR];rw [S.lds (b:=bs) (o:=0) (n:=1*4) m0 (lbt rfl)];rfl);replace S:=S.drop1;refine mI (S.grow (j:=0) (m:=1) (new:=jz ⟨0,i,v,l⟩) rfl Tryz.t44.1 X8 (by decide) Tryz.t44.2.2.2.2.2 G rfl (by decide) rfl (by rw [cC uF];show(_+4)*_<=_;omega)) ?_;clear S G;rintro h4 B S;simp only [LC]at S;have bl:Fl B:=(S.gown _ m0).1.fl;simp only [BZ,cls,seval];refine cM (aF S (i:=0) rfl Tryz.t44.2.2.1 bl (Xg (lbt rfl)) ono) ?_;clear S;rintro h5 ⟨S,cW⟩;simp only [LC]at S;have T:=S2.rebase S;have J:labB σ i v=l:=(by unfold labB;rw [ak];rfl);have bo:=bo_fin a (i:=i) (x2:=⟨xb,xp,xl,xa,xc,.func (.func (outF i)) #[ptrTo g] #[],.func (.func (nC i)) #[] #[],el,cl,ea,ca,b4,b5⟩) (by rw [hX];exact⟨rfl,rfl,rfl⟩) (τ:=cS σ i v) (y:=⟨dq (σ.sd i).K v none,(σ.sd i).L,(σ.sd i).P,(σ.sd i).O++[v]⟩) rfl (vE2:=B) (F6:=F i) (h':=h5) (by
    rw [ai];simp only [ij,Sx.L,Sx.row,hY,Xv,Xy,boG,cS,J,Xt,Xz,XC,Xa];exact T) (H2.mo S.fr (fun c d=>hk i c d)) (by rw [hY];exact be.mo S.fr (fun c d=>hk _ c d)) (⟨⟨gl,ML,bb⟩,Ho.ma,⟨_,b6,fun u=>by
    simp only [dY];by_cases hu:u=v
    . subst hu;simp;rfl
    . rw [if_neg (by omega),bc u];simp [hu]⟩⟩) (fun c d=>.inl d) (fun c d=>⟨fun f=>by
    simp only [ij,Sx.L,Sx.row,hY,Xv,Xy,boG,cS,J,Xt,Xz,XC,Xa]at f;exact(S.key_own f).elim (fun h=>by have:=b2 c d;omega) (fun h=>hk i c d h),(a.apart i c d).2⟩) (fun c d f=>by
    simp only [ij,Sx.L,Sx.row,hY,Xv,Xy,boG,cS,J,Xt,Xz,XC,Xa]at f;exact(S.key_own f).elim (fun h=>by have:=b3 c d;omega) (fun h=>hk _ c d h))
   obtain⟨X2,F2,A2,e2,bm⟩:=bo;have ay: ∀c∈BB,hq.n<=c:=fun c d=>hB c (by rw [ai];exact d);have b7:Gr hq h5:=gq.mo' T.fr ay;obtain⟨I5,m5,R5,cX,_,_⟩:=Cq I hp.1;simp only [BZ,S.ld (b:=xb) (o:=3) m1 rfl,seval];refine step_ret (outF_ok (i:=i) S.ok (hn.gr b7) (by have:=D.many;omega) b0) ?_;rintro vL h6 ⟨g6,V,nL⟩;have f6:Mo (· ∈BB) h0 h6:=T.fr.trans (g6.fr (M:=NoM)) (fun _ h=>h.elim);have A6:=A2.gr g6;have n6:h5.n<=h6.n:=g6.n;have b8: ∀c∈boB br (ptrTo g) s t vPi X2 F2 B (cS σ i v),c<h5.n:=A2.lt S.ok;generalize hL:outs γ.arcs (fsB i) γ.arcs.length v=L at V;have cb: ∀e∈L,e<γ.arcs.length/\fsB i (γ.arcs.getD e default)=v:=fun e he=>(by rw [<-hL]at he;exact Ak.1 he);have cY:L.length<=γ.arcs.length:=(by rw [<-hL];exact kK _ _ _ _);have aL:kE γ.arcs (fun _=>true) (fun v=>pis.getD v 0) i v (cS σ i v)=L.foldl (gD γ.arcs (fun _=>true) (fun v=>pis.getD v 0) i v) (cS σ i v):=(by unfold kE;rw [hL]);rw [aL];have c1:(X2 i).b=xb:=(by rw [(e2 i).1,hX]);simp only [BZ,V.lenq,seval];refine bj (fun(j:Nat) ρ h=>j<=L.length/\ ∃K F3 E,fm h br (ptrTo g) s t vPi K F3 E γ.nodes ((L.take j).foldl (gD γ.arcs (fun _=>true) (fun v=>pis.getD v 0) i v) (cS σ i v))/\BiI γ.arcs γ.nodes rt (fun _=>true) (fun v=>pis.getD v 0) ((L.take j).foldl (gD γ.arcs (fun _=>true) (fun v=>pis.getD v 0) i v) (cS σ i v))/\tZ ((L.take j).foldl (gD γ.arcs (fun _=>true) (fun v=>pis.getD v 0) i v) (cS σ i v)) i v m5/\(∀j,(K j).b=(X j).b/\(K j).vA=(X j).vA/\(K j).vH=(X j).vH)/\Mo (· ∈BB) h0 h/\(∀c∈boB br (ptrTo g) s t vPi K F3 E ((L.take j).foldl (gD γ.arcs (fun _=>true) (fun v=>pis.getD v 0) i v) (cS σ i v)),(c∈BB\/h0.n<=c)/\ ¬av vL c)/\az h 1 bO vL L/\ρ 0=ptrTo br/\ρ 1=ptrTo xb/\ρ 4=.int .i64 (v:Nat)/\ρ 55=vL/\ρ 56=.int .i64 (L.length:Nat)/\ρ 57=.int .i64 j) (fun j=>L.length-j) ?_ 0 _ _ ?_
   . clear S A6 V;intro j ih ρ h ⟨hj,K,F3,E,A3,I3,R3,e3,f3,sub3,V,r0,r1,r4,r55,r56,r57⟩;have w:au .i64 ((j:Int)+1)=((j+1:Nat):Int):=(by have:=D.many;rw [wrap64]<;>omega);by_cases hlt:j<L.length
     . obtain⟨c0,o0,x0,y0⟩:=V.ix (kd:=.i64) dr hlt;obtain⟨N,ad⟩:=cb _ (XB hlt);have bn:L.take (j+1)=L.take j++[L[j]]:=XP hlt;generalize L[j]=e at y0 N ad bn;replace y0:h.load c0 o0 1=some [.int .i64 (e:Nat)]:=y0;generalize bq:(L.take j).foldl (gD γ.arcs (fun _=>true) (fun v=>pis.getD v 0) i v) (cS σ i v)=τ at A3 I3 R3 sub3;have O:=f3.ok;have S:=A3.st O i;have bt:=A3.ok i;have H3:=A3.heap i;have a0:=A3.heap (!i);have P:=fun j c (d:c∈F3 j)=>A3.apart' i d;have W:=e3 i;rw [hX]at W;generalize Q:boB br (ptrTo g) s t vPi K F3 E τ=c2 at S sub3;rcases hX3:K i with⟨R,c3,Y,c4,c5,c6,c9,a4,a5,db,dd,de,dj⟩;rcases hY3:K (!i)with⟨dm,dn,ds,dt,dv,dx,dy,dF,dO,d0,d1,d2,d3⟩;rw [hX3]at bt H3 W;rw [hY3]at a0;simp only []at W;obtain⟨rfl,rfl,rfl⟩:=W;simp only [LC,boL,boG,ij,Sx.L,Sx.row,hX3,hY3]at S P;simp only [BZ,Xc,r0,r55,r56,r57,aG,hlt,x0,y0,S.ld (b:=br) (o:=3) m0 rfl,seval];have cs:Fl E:=(S.gown _ m0).1.fl;have S2:=S;have cf:=H3.lt O;have bu:=a0.lt O;replace S:=S.base;refine ar (aw rfl) (q:=4096) (ps:=[]) (by kernel_rfl) ?_;simp only [BZ,cls,r0,r1,S.ld (b:=br) (o:=9) m0 rfl,S.ld (b:=R) (o:=1) m1 rfl,seval];refine cL (ce (by exact Tryz.t44.1) (by exact X8) (by decide) (by rfl)) S ?_;clear S;intro h bs S bi bk;simp only [LC,bJ,cq,ag,Xq,Xl,Xo,Xx,seval]at S;simp only [BZ,cls,seval];have G:aR h 4 (.slice (some ⟨bs,0,none⟩) 1 1)=some (1,jz ⟨1,i,e,0⟩):=(by simp only [aR];rw [S.lds (b:=bs) (o:=0) (n:=1*4) m0 (lbt rfl)];rfl);replace S:=S.drop1;have cv:τ.ev.length<=1000000:=by have C:=xw (A:=γ.arcs) (al:=fun _=>true) (pi:=fun v=>pis.getD v 0) (b:=i) (v:=v) (L.take j) (σ:=cS σ i v);rw [bq,List.length_take]at C;have h2:(cS σ i v).ev.length=σ.ev.length+1:=(by simp [cS]);have:=D.many;omega
       refine mI (S.grow (j:=0) (m:=1) (new:=jz ⟨1,i,e,0⟩) rfl Tryz.t44.1 X8 (by decide) Tryz.t44.2.2.2.2.2 G rfl (by decide) rfl (by rw [cC uF];show(_+4)*_<=_;omega)) ?_;clear S G;rintro h8 U S;simp only [LC]at S;have bv:Fl U:=(S.gown _ m0).1.fl;simp only [BZ,cls,seval];refine cM (aF S (i:=0) rfl Tryz.t44.2.2.1 bv (Xg (lbt rfl)) ono) ?_;clear S;rintro h9 ⟨S,d4⟩;simp only [LC]at S;have T:=S2.rebase S;have ch:(evB τ ⟨1,i,e,0⟩).sd=dK τ.sd i (τ.sd i):=by
        funext j;unfold dK;by_cases hj:j=i
        . rw [if_pos hj,hj];rfl
        . rw [if_neg hj];rfl
       have bo:=bo_fin A3 (i:=i) (x2:=K i) ⟨rfl,rfl,rfl⟩ (τ:=evB τ ⟨1,i,e,0⟩) ch (vE2:=U) (F6:=F3 i) (h':=h9) (by
        rw [Q];simp only [ij,Sx.L,Sx.row,hX3,hY3,Xv,Xy,boG,evB,Xt,Xz,XC,Xa];exact T) (by rw [hX3];exact H3.mo S.fr (fun c d=>P i c d)) (by rw [hY3];exact a0.mo S.fr (fun c d=>P _ c d)) (A3.ok i) (fun c d=>.inl d) (fun c d=>⟨fun f=>by
        simp only [ij,Sx.L,Sx.row,hX3,hY3,Xv,Xy,boG,evB,Xt,Xz,XC,Xa]at f;exact(S.key_own f).elim (fun h=>by have:=cf c d;omega) (fun h=>P i c d h),(A3.apart i c d).2⟩) (fun c d f=>by
        simp only [ij,Sx.L,Sx.row,hX3,hY3,Xv,Xy,boG,evB,Xt,Xz,XC,Xa]at f;exact(S.key_own f).elim (fun h=>by have:=bu c d;omega) (fun h=>P _ c d h))
       obtain⟨X4,F4,A4,e4,af⟩:=bo;have f9:Mo (· ∈BB) h0 h9:=f3.trans T.fr (fun c d=>(sub3 c d).1);have bw:=gq.mo' f9 ay;have cj:(X4 i).b=R:=(by rw [(e4 i).1,hX3]);simp only [BZ,r0,S.ld (b:=br) (o:=0) m0 rfl,seval];refine step_ret (kC S.ok (hn.gr bw) N) ?_;rintro r hA ⟨gA,rfl⟩;have a6:=gA.ok;have bx:γ.arcs.getD e default=γ.arcs[e]:=(by simp [Xd,N]);obtain⟨a1,a2,a3⟩:=D.arcs _ (XB N);generalize γ.arcs[e]=x at bx a1 a2 a3;have AA:=A4.gr gA;replace S:=S.call gA;have l4:=S.ld (b:=R) (o:=4) m1 rfl;have l5:=S.ld (b:=R) (o:=5) m1 rfl;have gx:=S.gown;have SA:=S;clear S;have S:=Si a6;simp only [BZ,di,seval];refine ae aA S ?_;clear S;intro h b9 S cx;simp only [BZ,seval];refine aE (S.store (i:=0) rfl ?_ ?_ rfl rfl ?_ ono) ?_
       . exact(by exact Tryz.t96.2.1)
       . exact(by intro x e;cases e)
       . exact lbt rfl
       clear S;rintro h ⟨S,mo⟩;clear mo;simp only [LC,ag,lay,XJ,XK,seval]at S;have ck:=S.old l4 (fun h=>h);have d5:=S.old l5 (fun h=>h);simp only [BZ,seval];refine ar (aw rfl) (q:=0) (ps:=[(7,16),(7,14),(7,12)]) (by kernel_rfl) ?_;simp only [BZ,cls,r0,r1,ck,S.lds (b:=b9) (o:=0) (n:=3) m0 (lbt rfl),seval];have k9:=(S.row (b:=b9) m0).lt S.ok;refine bg (B6 (a:=x) S.ok) ?_;intro cm Z;have z4:=bC a6 l4;have nA:=S.gr.n;have p1:=ah Z (show R<_ by omega);have p2:=ah Z k9;have p3:=ah Z (show Y<_ from XF (iz a6 (show hA.get Y=some (.map a4 a5)from(SA.own _ m2).2)) nA);replace S:=S.call Z;have bB:=S.old l5 (fun h=>h);have bE:cm.get Y=some (.map a4 a5):=S.gr.at (show hA.get Y=some (.map a4 a5)from(SA.own _ m2).2);obtain⟨d7,cn,a7⟩:=bt.ml;have bL:=lG (x:=(v:Int)) Tryz.t272.1 Tryz.t3.1 (z:=.int .i64 0) (by kernel_rfl) bE cn;rw [a7 v,R3.2.1,XE,Xj]at bL;have d8:=R3.2.2.1;have cz:=Xn cH (XA (I3.sv i).len n2);have eb:=jT;have bP:au .i64 ((m5:Int)+(x.w:Int))=((m5+x.w:Nat):Int):=(by rw [wrap64]<;>omega);simp only [BZ,cls,r1,r4,bB,bL,bP,S.ld (b:=b9) (o:=2) m0 rfl,seval];have ed:=f3.n;have ee:=gq.n;have a8: ∀c∈boB br (ptrTo g) s t vPi X4 F4 U (evB τ ⟨1,i,e,0⟩),hq.n<=c/\(c∈BB\/h0.n<=c):=fun c d=>by
        rcases af c d with C|C
        . rw [Q]at C;have h2:=(sub3 c C).1;exact⟨h2.elim (ay c) (fun h=>by omega),h2⟩
        . exact⟨by omega,.inr (by omega)⟩
       have ac:=gA.trans S.gr;have n9:=T.fr.n;have ei:=ac.n;have bT: ∀c∈boB br (ptrTo g) s t vPi X4 F4 U (evB τ ⟨1,i,e,0⟩),¬av vL c:=fun c d hb=>by
        rcases af c d with C|C
        . rw [Q]at C;exact(sub3 c C).2 hb
        . have:=V.blt O hb;omega
       have cp:=bw.trans ac;have cr:ftB i x<γ.nodes:=(by unfold ftB;split<;>assumption);have rc:=tT S.ok (AA.gr S.gr) (sP.gr cp) lP (fun c d f=>by have C:=sP.blt gq.ok0 d;have h2:=(a8 c f).1;omega) n2 (evB_I I3) (i:=i) (v:=ftB i x) (lab:=m5+x.w) (p:=e::(τ.sd i).P v) cr (by omega);rw [cj]at rc;refine bQ rc ?_;rintro r hC ⟨fC,X5,F5,A5,e5,bX⟩;simp only [BZ,r57,w,seval];refine⟨by simp only [aK,aO,aH,aQ,aJ,ne_eq,not_false_eq_true,aS,bz,aN,aM,bG,bS,aC,Xs,r0,r1,r4,r55,r56,r57,an,note_look,ao p1,aq p1,ao p2,aq p2,ao p3,aq p3,seval],?_⟩;have es:gD γ.arcs (fun _=>true) (fun v=>pis.getD v 0) i v τ e=dp (fun v=>pis.getD v 0) i (evB τ ⟨1,i,e,0⟩) (ftB i x) (m5+x.w) (e::(τ.sd i).P v):=(by have:labB τ i v=m5:=(by unfold labB;rw [R3.2.1];rfl);unfold gD;rw [if_pos rfl,bx,this]);have ef:(L.take (j+1)).foldl (gD γ.arcs (fun _=>true) (fun v=>pis.getD v 0) i v) (cS σ i v)=gD γ.arcs (fun _=>true) (fun v=>pis.getD v 0) i v τ e:=(by rw [bn,List.foldl_append,bq];rfl);obtain⟨I6,K6⟩:=Bx n2 (fun a ha=>D.arcs a ha) I3 R3 N ad;refine ih (j+1) _ _ (by omega) ⟨by omega,X5,F5,U,by rw [ef,es];exact A5,by rw [ef];exact I6,by rw [ef];exact R3.ke K6,fun q=>⟨(e5 q).1.trans ((e4 q).1.trans (e3 q).1),(e5 q).2.1.trans ((e4 q).2.1.trans (e3 q).2.1),(e5 q).2.2.trans ((e4 q).2.2.trans (e3 q).2.2)⟩,?_,?_,?_,by simp [aD,r0,an,r1,r4,r55,r56]⟩
       . exact(f9.trans (ac.fr (M:=NoM)) (fun _ h=>h.elim)).trans fC (fun c d=>(a8 c d).2)
       . intro c d;rw [ef,es]at d;rcases bX c d with C|C
         . exact⟨(a8 c C).2,bT c C⟩
         . refine⟨.inr (by omega),fun hb=>?_⟩;have:=V.blt O hb;omega
       . exact((V.mo T.fr (fun c d f=>(sub3 c f).2 d)).gr ac).mo fC (fun c d f=>bT c f d)
     . have:j=L.length:=(by omega);subst this;rw [List.take_length]at A3 sub3;simp only [BZ,r56,r57,aG,hlt,seval];exact⟨f3,K,F3,E,A3,e3,fun c d=>(sub3 c d).1⟩
   . exact⟨Xi _,X2,F2,B,A6,I5,R5,e2,f6,fun c d=>⟨by rw [<-ai];exact bm c d,fun hb=>by have C:=nL c hb;have h2:=b8 c d;omega⟩,V,by simp [aD,c8,an]⟩
section
variable{A:List Arc}{N r:Nat}{al:Nat->Bool}{pi:Nat->Int}{i:Bool}{x:Sd}
theorem SvB.ids(h:SvB A N r al pi i x): ∀(n:Nat) {v:Nat},(x.P v).length<=n->(x.L v).isSome=true-> ∀e∈x.P v,e<A.length:=by
 intro n
 induction n with
 | zero=>
   intro v c _ e b;rw [List.length_eq_zero_iff.1 (Nat.le_zero.1 c)]at b;cases b
 | succ n f=>
   intro v c d e b;obtain⟨l,d⟩:=Option.isSome_iff_exists.1 d;rcases h.path v l d with⟨_,g,_⟩|⟨a,m,j,_,_,_,k,o,_⟩
   . rw [g]at b;cases b
   . rw [k]at c b;rcases List.mem_cons.1 b with rfl|b
     . exact j
     . exact f (by rw [List.length_cons]at c;omega) (by rw [o];rfl) e b
end
end Go.Ab

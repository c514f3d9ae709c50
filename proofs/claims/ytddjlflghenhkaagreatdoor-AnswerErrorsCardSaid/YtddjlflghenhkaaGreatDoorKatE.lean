/- Nets, cells, flags: what the functions do (part 5). -/
import Derived.Test.YtddjlflghenhkaaGreatDoorKatD
open Go.Ab.Tryz
open Go.Ab.Tryz renaming abEnv->zM,e3E->Xp,e143E->X8
open List renaming mem_append_left->zO,append_nil->Xa,getD_eq_getElem?_getD->Xd,filterMap_nil->Xe,not_mem_nil->Xf,mem_append_right->Xh,mem_cons->Xk,map_cons->Xm,map_nil->Xr,flatMap_append->Xt,cons_append->Xv,nil_append->Xy,flatMap_cons->Xz,getElem_mem->XB,flatMap_nil->XC,length_append->XD,getElem?_eq_getElem->XH,take->XI,drop->XJ,mem_cons_self->XK,range->XL,sublist_cons_self->XN,take_succ_eq_append_getElem->XO,nil_sublist->XP,length_set->XR,mem_or_eq_of_mem_set->XY,nodup_cons->X6,length_singleton->X7
open Int renaming tmod_eq_emod_of_nonneg->Xb,cast_ofNat_Int->Xc,natCast_emod->Xu,ofNat_eq_natCast->XG,tdiv_eq_ediv_of_nonneg->XX,ofNat->X9
open Nat renaming lt_of_succ_le->Xg,zero_le->Xi,zero_add->Xl,mul_le_mul_right->Xn,mul_one->Xo,zero_mul->Xq,one_mul->Xx,le_trans->XA,lt_of_lt_of_le->XF,mod_lt->XM,le_refl->XT,le_mul_of_pos_right->XZ
open Option renaming getD_some->Xj,getD_none->Xw,map_some->XE,map_none->XQ,isSome_none->XV,isSome_some->XW
open Bool renaming and_true->Xs,not_not->XS,false_eq_true->XU
set_option maxHeartbeats 4000000
set_option linter.defProp false
set_option linter.unusedVariables false
set_option linter.unusedSimpArgs false
namespace Go.Ab
variable{h h0:Hp}
variable{N a b2 br c k lab m r s t v:Nat}
variable{b i j:Bool}
variable{R:Nat->List Int}
variable{f:Gra}
variable{p:List Nat}
variable{l pis:List Int}
variable{pn vE vPi:Value}
variable{M:Nat->Prop}
variable{G:List GL}
variable{E:Env}
variable{A:List Arc}
variable{al:Nat->Bool}
variable{pi:Nat->Int}
open Go.Proofs
set_option maxRecDepth 10000
theorem bSetG_ok(t:OZ h0){o b:Nat}{B:Nat->Nat}(m:eu h0 k o b a c B)(p:k≠o){i:Nat}(d:b<=100)(e:a<=1000)(j:c=(a+7)/8)(x:Bool):
 Ret zM 39 [ptrTo k,.int .i64 (r:Nat),.int .i64 (i:Nat),.bool x] h0 fun v h'=>Mo (· =o) h0 h'/\ ∃u,eu h' k o b a c u/\(Tz a c B->Tz a c u):=by
 by_cases l:r<b/\i<a
 . exact bSetZ_ok t m p l.1 l.2 d e j x
 have A: ∀{h:Hp} {f:Value},Gr h0 h->Fl f->aO zM 99 [ptrTo k,.int .i64 (r:Nat),.int .i64 (i:Nat),f] h (.bool false):=by
  intro h f g E;have S:=Si g.ok;have q:=m.gr g;have w: ¬(r:Int)<0:=by omega
  have C: ¬(i:Int)<0:=by omega
  by_cases F:r<b
  . have s: ¬(b:Int)<=(r:Int):=(by omega);have D:(a:Int)<=(i:Int):=(by omega);refine aa (n:=46) (rs:=[.tmp 8]) rfl Tryz.e99 rfl rfl rfl (lbt rfl) ?_;simp only [BZ,w,seval];refine ag (jD S.ok q.bits) ?_;intro h g;replace S:=S.call g;clear g;simp only [BZ,s,C,seval];refine ag (jH S.ok (q.gr S.gr).bits) ?_;intro h g;replace S:=S.call g;clear g;simp only [BZ,ab,D,seval];exact S.gr
  . have s:(b:Int)<=(r:Int):=(by omega);refine aa (n:=46) (rs:=[.tmp 8]) rfl Tryz.e99 rfl rfl rfl (lbt rfl) ?_;simp only [BZ,w,seval];refine ag (jD S.ok q.bits) ?_;intro h g;replace S:=S.call g;clear g;simp only [BZ,ab,s,seval];exact S.gr
 have S:=Si t;refine aa (n:=14) (rs:=[.tmp 8]) rfl Tryz.e39 rfl rfl rfl (lbt rfl) ?_;simp only [BZ,seval];refine ac (bJ (by exact og)) S ?_;clear S;intro h G S y;simp only [BZ,seval];refine ag (A S.gr dY) ?_;intro h g;replace S:=S.call g;clear g;simp only [BZ,seval];exact⟨S.gr.fr,B,m.gr S.gr,fun z=>z⟩
theorem fG.congr{n:Nat}{v:Value}{f:Nat->List Int}(r:fG h m v n R)(e: ∀i,i<n->R i=f i):fG h m v n f:=by
 obtain⟨j,a,b,c,d⟩:=r;exact⟨j,a,b,c,fun i w g=>by
  have:=(List.getElem?_eq_some_iff.1 g).1;rw [<-e i (by omega)];exact d i w g⟩
theorem TabAt.congr{h:Hp}{m N:Nat}{p:Value}{l:List Int}{R Q a c:Nat->List Int}(t:TabAt h m p N l R Q)(d: ∀i,i<l.length->R i=a i)(e: ∀i,i<l.length->Q i=c i):TabAt h m p N l a c:=by obtain⟨b,f,g,j,k,n,o,q,r,s,u⟩:=t.ex;exact⟨b,f,g,j,k,n,o,q.congr d,r.congr e,s,u⟩
def tabL(l:List Int)(R Q:Nat->List Int):Tab:=⟨l,(XL l.length).map R,(XL l.length).map Q⟩
theorem lc{n i:Nat}(h:i<n):kT ((XL n).map R) i=R i:=by unfold kT;simp [Xd,h]
theorem tabL_at{p:Value}{Q:Nat->List Int}(t:TabAt h m p N l R Q):TabAt h m p N (tabL l R Q).l (kT (tabL l R Q).to) (kT (tabL l R Q).fr):=
 t.congr (fun i a=>(lc a).symm) (fun i a=>(lc a).symm)
theorem tabL_L{Q:Nat->List Int}(d:iS N l)(k:N<=1000)(c:1<=l.length)(e: ∀i,i<l.length->ik N (R i))(f: ∀i,i<l.length->ik N (Q i)):TabL N (tabL l R Q):=by
 have a: ∀{F:Nat->List Int},(∀i,i<l.length->ik N (F i))-> ∀r∈(XL l.length).map F,r.length=N/\ ∀x∈r,0<=x/\x<=72057594037927936:=fun {F} g r h=>by obtain⟨i,b,rfl⟩:=List.mem_map.1 h;exact g i (List.mem_range.1 b)
 exact⟨c,d.1,by simp [tabL],by simp [tabL],a e,a f,fun x j=>by
  obtain⟨i,b,rfl⟩:=List.getElem_of_mem (l:=l) j;have:=d.2 i b;simp only [Xd,XH b,Xj]at this;have c:=this.1;have m:=this.2.1;exact⟨c,by omega⟩⟩
theorem ownRows(d:OZ h0){a:Gra}(b:Good a){f:Nat}(e:aS h0 f pn a)(g:iS a.nodes l){i:Nat}(j:i<l.length):ik a.nodes (toR a l i)/\ik a.nodes (frR a l i):=by have h:=g.2 i j;exact⟨⟨tU _ _ _,fun x c=>Cy (fun v=>(exTo d b e (by omega) v).le) c⟩,tU _ _ _,fun x c=>Cy (fun v=>(exFrom d b e (by omega) v).le) c⟩
theorem fits_im(g:OZ h0){b d:Value}{a:Gra}{h:Nat}{m:List Int}{F:Bs}(i:aS h0 h pn a)(j:1<=a.nodes)(q:a.nodes<1000000)(c:CelM h0 b d a m F):aO zM 42 [pn,b,d] h0 (.bool true):=by obtain⟨k,r,s,e,f,B,l,n,rfl,o,p,_⟩:=c;have:=wI g i (.inr ⟨⟨k,l⟩,rfl⟩) p.bits j (by omega);simpa [n,o]using this
theorem CG(G:OZ h0){b:Nat}{I:Img}(i:ImAt h0 b I):aO zM 9 [ptrTo b] h0 (.bool true):=by
 have S:=Si G;obtain⟨U,H,J,K,r,⟨V,w⟩,x,f,a⟩:=i;obtain⟨W,rfl⟩:=w.ptr;have L:=r.lt G;have c:=r.load1 (o:=0) rfl;have d:=r.load1 (o:=1) rfl;have k:=r.load1 (o:=2) rfl;have p:=r.load1 (o:=3) rfl;have M:=x.n1;have X:=x.n2;cases N:I.T with
 | none=>
   rw [N]at f;have f:H=.pointer none:=f;subst f;cases y:I.C with
   | none=>
     rw [y]at a;obtain⟨rfl,rfl⟩:=a;refine aa (n:=72) (rs:=[.tmp 2]) rfl Tryz.e9 rfl rfl rfl (lbt rfl) ?_;simp only [BZ,c,seval];refine ao (av rfl) (q:=0) (ps:=[(10,14)]) (by kernel_rfl) ?_;simp only [BZ,cls,d,k,p,seval];refine⟨by simp only [aJ,aR,aH,aT,aI,ne_eq,not_false_eq_true,aY,bC,aQ,aN,bF,bW,aD,Xs,ah,dh,seval];rfl,?_⟩;refine ao (av rfl) (q:=0) (ps:=[]) (by kernel_rfl) ?_;simp only [BZ,cls,ab,seval];exact S.gr
   | some D=>
     obtain⟨m,F⟩:=D;rw [y]at a;have a:CelM h0 J K I.g m F:=a;obtain⟨Q,R,rfl,rfl⟩:=a.ptr;refine aa (n:=72) (rs:=[.tmp 2]) rfl Tryz.e9 rfl rfl rfl (lbt rfl) ?_;simp only [BZ,c,seval];refine ao (av rfl) (q:=0) (ps:=[(10,14)]) (by kernel_rfl) ?_;simp only [BZ,cls,d,k,seval];refine⟨by simp only [aJ,aR,aH,aT,aI,ne_eq,not_false_eq_true,aY,bC,aQ,aN,bF,bW,aD,Xs,ah,dh,seval];rfl,?_⟩;refine ao (av rfl) (q:=0) (ps:=[]) (by kernel_rfl) ?_;simp only [BZ,cls,c,k,p,seval];refine bz (fits_im S.ok w M (by omega) a) ?_;intro h g;have s:=am g L;replace S:=S.call g;simp only [BZ,cls,ab,seval];exact S.gr
 | some T=>
   rw [N]at f;have f:TabM h0 H I.g.nodes T:=f;obtain⟨Y,rfl⟩:=f.ptr;obtain⟨⟨mt,B⟩,O⟩:=f;have t1:=O.l1;have t2:=O.l2;have P:(0:Int)<(T.l.length:Int):=(by omega);have q: ∀{t u C:Hp},Gr h0 t->Gr t u->Gr u C->leaves h0 t b=true/\leaves t u b=true/\leaves u C b=true:=fun e j l=>(by have:=e.n;have:=j.n;exact⟨am e L,am j (by omega),am l (by omega)⟩);cases y:I.C with
   | none=>
     rw [y]at a;obtain⟨rfl,rfl⟩:=a;refine aa (n:=72) (rs:=[.tmp 2]) rfl Tryz.e9 rfl rfl rfl (lbt rfl) ?_;simp only [BZ,c,seval];refine ao (av rfl) (q:=0) (ps:=[(10,14)]) (by kernel_rfl) ?_;simp only [BZ,cls,d,seval];refine bz (lj S.ok B) ?_;intro t e;replace S:=S.call e;simp only [BZ,cls,e.load c,seval];refine bz (bM S.ok (w.gr S.gr)) ?_;intro u j;replace S:=S.call j;simp only [BZ,cls,S.gr.load d,seval];refine bU (jF S.ok (B.gr S.gr) (by omega)) ?_;rintro v C ⟨l,E,_⟩;obtain⟨s,z,A⟩:=q e j l;replace S:=S.call l;simp only [BZ,cls,E.lenq,P,S.gr.load c,S.gr.load d,S.gr.load k,S.gr.load p,seval];refine⟨by simp only [aJ,aR,aH,aT,aI,ne_eq,not_false_eq_true,aY,bC,aQ,aN,bF,bW,aD,Xs,ah,dh,au s,ar s,au z,ar z,au A,ar A,seval],?_⟩;refine ao (av rfl) (q:=0) (ps:=[]) (by kernel_rfl) ?_;simp only [BZ,cls,ab,S.gr.load c,S.gr.load d,S.gr.load k,S.gr.load p,seval];exact S.gr
   | some D=>
     obtain⟨m,F⟩:=D;rw [y]at a;have a:CelM h0 J K I.g m F:=a;obtain⟨Q,R,rfl,rfl⟩:=a.ptr;refine aa (n:=72) (rs:=[.tmp 2]) rfl Tryz.e9 rfl rfl rfl (lbt rfl) ?_;simp only [BZ,c,seval];refine ao (av rfl) (q:=0) (ps:=[(10,14)]) (by kernel_rfl) ?_;simp only [BZ,cls,d,seval];refine bz (lj S.ok B) ?_;intro t e;replace S:=S.call e;simp only [BZ,cls,e.load c,seval];refine bz (bM S.ok (w.gr S.gr)) ?_;intro u j;replace S:=S.call j;simp only [BZ,cls,S.gr.load d,seval];refine bU (jF S.ok (B.gr S.gr) (by omega)) ?_;rintro v C ⟨l,E,_⟩;obtain⟨s,z,A⟩:=q e j l;replace S:=S.call l;simp only [BZ,cls,E.lenq,P,S.gr.load c,S.gr.load d,S.gr.load k,S.gr.load p,seval];refine⟨by simp only [aJ,aR,aH,aT,aI,ne_eq,not_false_eq_true,aY,bC,aQ,aN,bF,bW,aD,Xs,ah,dh,au s,ar s,au z,ar z,au A,ar A,seval],?_⟩;refine ao (av rfl) (q:=0) (ps:=[]) (by kernel_rfl) ?_;simp only [BZ,cls,S.gr.load c,S.gr.load d,S.gr.load k,S.gr.load p,seval];have Z:=S.gr.n;refine bz (fits_im S.ok (w.gr S.gr) M (by omega) (a.gr S.gr)) ?_;intro h g;have e4:=am g (show b<_ by omega);replace S:=S.call g;simp only [BZ,cls,ab,seval];exact S.gr
theorem St.growB{L:List (Nat×Ob)}(S:St M h0 h L G){t w e:TypeId}{f len b md:Nat}{y vs new:List Value}{x:Value}(B:Row h b vs md)(a:len*k=vs.length)(C:E.und t=some (.slice e))(D:fu E e f k y)(F:0<f)
 (q:ez E w=some false) (g:aK h k x=some (m,new)) (z:m*k=new.length) (H:0<m) (A:0<k) (r:(vs.length+new.length)*(f+1)<=70368744177664) {ts:List TypeId}:
 ∃h' v',dK E h (t::w::ts) (.slice (some ⟨b,0,none⟩) len len) x=some (h',v')/\St M h0 h' L ((v',k,vs++new)::G):=by
 obtain⟨⟨i,I,rfl,rfl⟩,J,K⟩:=D;obtain⟨p,N,j,d,s⟩:=B;have l:Nat.ble (len+m) len=false:=by
  cases q:Nat.ble (len+m) len with
  |false=>rfl|true=>exact absurd (lbt q) (by omega)
 have o:len+m<=vs.length+new.length:=by rw [<-a,<-z];have H:=XZ len A;have O:=XZ m A;omega
 have c:(Nat.ble ((len+m)*(i.bytes+1)) 70368744177664&&Nat.blt 0 i.bytes)=true:=by rw [Nat.ble_eq_true_of_le (XA (Xn _ o) r)];simp only [Bool.true_and];rw [Nat.blt_eq];exact F
 have u:Nat.beq y.length i.size=true:=by rw [K];exact Nat.beq_refl _
 have v:kZ p vs.length 0 (len*i.size) new=some (p.pushAll vs.length new,vs.length+new.length):=by unfold kZ;rw [a,Nat.beq_refl vs.length];rfl
 refine⟨h.new (.cells (p.pushAll vs.length new) (vs.length+new.length) e 1),.slice (some ⟨h.n,0,some i.size⟩) (len+m) (len+m),?_,S.newG (n:=len+m) ?_ ?_⟩
 . unfold dK;simp only [q];unfold lH;simp only [C,I,g];unfold gX;rw [l];simp only [cond_false];rw [c,J];simp only [cond_true,u];unfold pV;simp only [j,v]
 . rw [Nat.add_mul,a,z,XD]
 . refine⟨p.pushAll vs.length new,e,?_,?_,fun n=>?_⟩
   . rw [Hp.get_new _ _ S.ok,if_pos rfl,XD]
   . rw [XD];exact Tr.sized_pushAll _ d
   . rw [Tr.get_pushAll _ _ _ d,List.getElem?_append]
     split
     . exact s n
     . rfl
theorem pos_first{ks:List Int}{x:Int}: ∀{i:Nat} (a:i<ks.length),ks[i]=x->(∀j (c:j<ks.length),j<i->ks[j]≠x)->pos ks x=some i:=by
 induction ks with
 |nil=>intro i a;simp at a| cons y k f=>
   intro i a b d;cases i with
   |zero=>simp only [List.getElem_cons_zero]at b;unfold pos;rw [if_pos b.symm]| succ i=>
     have g:y≠x:=d 0 (by simp) (by omega);have:=f (i:=i) (by simpa using a) (by simpa using b) (fun j c h=>by have:=d (j+1) (by simpa using c) (by omega);simpa using this);unfold pos;rw [if_neg (fun e=>g e.symm),this];rfl
theorem pos_no{ks:List Int}{x:Int}(a: ∀j (b:j<ks.length),ks[j]≠x):pos ks x=none:=by
 induction ks with
 |nil=>rfl| cons y f c=>
   have d:y≠x:=a 0 (by simp);unfold pos;rw [if_neg (fun e=>d e.symm),c (fun j b=>by have:=a (j+1) (by simpa using b);simpa using this)];rfl
theorem DY  (ok:OZ h0) {v:Value}  (K:az h0 1 (encI .i64) v l) (hl:l.length<1000):
 Ret zM 37 [v] h0 fun r h'=>Gr h0 h'/\az h' 1 (encI .i64) r (norm [] l)/\ ∀c,aq r c->h0.n<=c:=by
 have S:=Si ok;have fv:=K.fl;refine aa (n:=46) (rs:=[.tmp 2]) rfl Tryz.e37 rfl rfl rfl (lbt rfl) ?_;simp only [BZ];replace S:=(S.nilG (k:=1)).nilG (k:=1);refine aW (fun(i:Nat) g h=>i<=l.length/\ ∃(L C:Value) (p ks:List Int),St NoM h0 h [] [(C,1,ints ks),(L,1,ints p)]/\norm [] l=p++norm ks (l.drop i)/\p.length=i/\ks.length<=i/\g 0=v/\g 3=L/\g 4=C/\g 5=.int .i64 i) (fun i=>l.length-i) ?_ 0 _ _ ?_
 . clear S;intro i W g h ⟨hi,L,C,p,ks,S,hnm,lo,lk,s,A,B,t⟩;have w:an .i64 ((i:Int)+1)=((i+1:Nat):Int):=(by rw [wrap64]<;>omega);by_cases hlt:i<l.length
   . have X:l.drop i=l[i]::l.drop (i+1):=List.drop_eq_getElem_cons hlt;obtain⟨c0,o0,P,Y⟩:=K.ix (kd:=.i64) (bO .i64) hlt;generalize l[i]=x at X Y;simp only [BZ,s,t,K.lenq,aF,hlt,seval];refine aW (fun(a:Nat) g h'=>h'=h/\a<=ks.length/\(∀j (F:j<ks.length),j<a->ks[j]≠x)/\g 0=v/\g 3=L/\g 4=C/\g 5=.int .i64 i/\g 6=.int .i64 a) (fun a=>ks.length-a) ?_ 0 _ _ ?_
     . clear s A B t;rintro a Q g h' ⟨rfl,ha,R,s,A,B,t,M⟩;have wa:an .i64 ((a:Int)+1)=((a+1:Nat):Int):=(by rw [wrap64]<;>omega);have N:az h' 1 (encI .i64) C ks:=(S.gown _ m0).1.sl rfl (fun _=>rfl) (by decide);have D:h'.load c0 o0 1=some [.int .i64 x]:=S.gr.load Y;have G: ∀(q:Nat) (z:List Int) (u d:Value) (T:Nat->Value) (E:Hp),q=pS ks x->z=pL ks x->St NoM h0 E [] [(u,1,ints z),(d,1,ints (p++[(q:Int)]))]->norm [] l=(p++[(q:Int)])++norm z (l.drop (i+1)):=fun q z u d T E e1 e2 _=>(by rw [hnm,X,norm,<-e1,<-e2,List.append_assoc];rfl);by_cases y:a<ks.length
       . obtain⟨c1,o1,Z,H⟩:=N.ix (kd:=.i64) (bO .i64) y;replace H:h'.load c1 o1 1=some [.int .i64 ks[a]]:=H;by_cases O:ks[a]=x
         . simp only [BZ];refine ao (av rfl) (q:=0) (ps:=[]) (by kernel_rfl) ?_;have U: ¬(a:Int)=(ks.length:Int):=(by omega);rw [O]at H;simp only [BZ,cls,ab,s,A,B,t,M,N.lenq,aF,y,Z,H,P,D,U,seval];refine ac (ce (by exact Tryz.t41.1) (by exact Xp) (by decide) (by rfl)) S ?_;clear S;intro h I S J;simp only [LC,bH,cg,ae,Xq,Xl,Xo,Xx,seval]at S;simp only [BZ,seval];have ps:=pos_first y O R;have f:aK h 1 (.slice (some ⟨I,0,none⟩) 1 1)=some (1,ints [(a:Int)]):=(by simp only [aK];rw [S.lds (b:=I) (o:=0) (n:=1*1) m0 (lbt rfl)];rfl);replace S:=S.drop1;refine dE (S.grow (j:=1) (m:=1) (new:=ints [(a:Int)]) rfl Tryz.t41.1 Xp (by decide) Tryz.t41.2.2.2.2.2 f rfl (by decide) rfl (by rw [cC,cC];simp;omega)) ?_;clear S f;rintro E d S;simp only [LC]at S;rw [<-iE]at S;simp only [BZ,t,w,seval];refine W (i+1) _ _ (by omega) ⟨by omega,d,C,_,ks,S,G a ks C d g E (by unfold pS;rw [ps]) (by unfold pL;rw [ps]) S,by simp [lo],by omega,by simp [aB,s,B]⟩
         . simp only [BZ];refine ao (av rfl) (q:=0) (ps:=[]) (by kernel_rfl) ?_;simp only [BZ,cls,s,B,t,M,N.lenq,aF,y,Z,H,P,D,O,wa,seval];refine Q (a+1) _ _ (by omega) ⟨rfl,by omega,fun j F af=>?_,by simp [aB,s,A,B,t]⟩;by_cases e:j=a
           . subst e;exact O
           . exact R j F (by omega)
       . have ea:a=ks.length:=(by omega);subst ea;have ps:=pos_no (ks:=ks) (x:=x) (fun j F=>R j F F);simp only [BZ];refine ao (av rfl) (q:=0) (ps:=[]) (by kernel_rfl) ?_;simp only [BZ,cls,ab,s,A,B,t,M,N.lenq,aF,y,P,D,seval];refine ac (ce (by exact Tryz.t41.1) (by exact Xp) (by decide) (by rfl)) S ?_;clear S;intro h I S J;simp only [LC,bH,cg,ae,Xq,Xl,Xo,Xx,seval]at S;simp only [BZ,seval];have f:aK h 1 (.slice (some ⟨I,0,none⟩) 1 1)=some (1,ints [x]):=(by simp only [aK];rw [S.lds (b:=I) (o:=0) (n:=1*1) m0 (lbt rfl)];rfl);replace S:=S.drop1;refine dE (S.grow (j:=0) (m:=1) (new:=ints [x]) rfl Tryz.t41.1 Xp (by decide) Tryz.t41.2.2.2.2.2 f rfl (by decide) rfl (by rw [cC,cC];simp;omega)) ?_;clear S f;rintro E u S;simp only [LC]at S;rw [<-iE]at S;simp only [BZ,A,M,seval];refine ac (ce (by exact Tryz.t41.1) (by exact Xp) (by decide) (by rfl)) S ?_;clear S;intro h bu S ad;simp only [LC,bH,cg,ae,Xq,Xl,Xo,Xx,seval]at S;simp only [BZ,seval];have f:aK h 1 (.slice (some ⟨bu,0,none⟩) 1 1)=some (1,ints [((ks.length:Nat):Int)]):=(by simp only [aK];rw [S.lds (b:=bu) (o:=0) (n:=1*1) m0 (lbt rfl)];rfl);replace S:=S.drop1;refine dE (S.grow (j:=1) (m:=1) (new:=ints [((ks.length:Nat):Int)]) rfl Tryz.t41.1 Xp (by decide) Tryz.t41.2.2.2.2.2 f rfl (by decide) rfl (by rw [cC,cC];simp;omega)) ?_;clear S f;rintro E d S;simp only [LC]at S;rw [<-iE]at S;simp only [BZ,t,w,seval];refine W (i+1) _ _ (by omega) ⟨by omega,d,u,_,_,S,G ks.length _ u d g E (by unfold pS;rw [ps]) (by unfold pL;rw [ps]) S,by simp [lo],by simp;omega,by simp [aB,s]⟩
     . exact⟨rfl,Xi _,fun j F h=>absurd h (by omega),by simp [aB,s,A,B,t]⟩
   . have V:i=l.length:=(by omega);simp only [BZ,ab,s,A,t,K.lenq,aF,hlt,seval];rw [V,List.drop_length,norm,Xa]at hnm;rw [hnm];exact⟨S.gr,(S.gown _ m1).1.sl rfl (fun _=>rfl) (by decide),fun c hc=>((S.gblk m1 hc).1).elim (fun h=>h) (fun h=>h.elim)⟩
 . exact⟨Xi _,_,_,[],[],S,rfl,rfl,XT _,by simp [aB,dh]⟩
def TabY(h:Hp)(k:Nat)(b:Prop)(p:Value)(a:Gra):Option Tab->Prop
 |none=>p=.pointer none|some T=>(∃m,k<m/\TabAt h m p a.nodes T.l (kT T.to) (kT T.fr))/\TabL a.nodes T/\T.l.length<=4/\iS a.nodes T.l/\(b-> ∀i,i<T.l.length->kT T.to i=toR a T.l i/\kT T.fr i=frR a T.l i)
def CelY(h:Hp)(i:Prop)(b d:Value)(a:Gra):Option (List Int×Bs)->Prop
 |none=>b=.pointer none/\d=.pointer none|some (m,F)=>CelM h b d a m F/\ ∃j e k f l c g,b=ptrTo k/\d=ptrTo f/\gG h j b a.nodes m e/\gP m+1=((c:Nat):Int)/\c<=100/\eu h f l c a.arcs.length ((a.arcs.length+7)/8) g/\(i->OkB a e ((a.arcs.length+7)/8) c 0 g)
def mR(h:Hp)(b:Nat)(I:Img)(f g:Prop):Prop:=Good I.g/\ ∃a c d e i,Row h b [ptrTo a,c,d,e] 1/\aS h i (ptrTo a) I.g/\TabY h 0 f c I.g I.T/\CelY h g d e I.g I.C
theorem b_andB2{t:TypeId}{p q:Operand}{x:Nat}(h:x<256):bV E .and t p q (.int .u8 (x:Int)) (.int .u8 1)=some (.int .u8 ((x%2:Nat):Int)):=by rw [<-Nat.and_one_is_mod];exact b_andN (k:=.u8) (x:=x) (y:=1) rfl (by simp only [pw];omega) (by decide)
theorem zq{j:Nat}(g:a<=255)(b:j<8){t:TypeId}{p q:Operand}:bV E .and t p q (.int .u8 (a:Int)) (.int .u8 ((2 ^j:Nat):Int))=some (.int .u8 ((if a/2 ^j%2=1 then 2 ^j else 0:Nat):Int)):=by
 have h:=b_andN (E:=E) (t:=t) (p:=p) (q:=q) (k:=.u8) (x:=a) (y:=2 ^j) rfl (by simp only [pw];omega) (pow8 b);rw [h];congr 2;have:a&&& 2 ^j=if a/2 ^j%2=1 then 2 ^j else 0:=by
  refine Nat.eq_of_testBit_eq fun i=>?_;rw [Nat.testBit_and,Nat.testBit_two_pow];have c:a.testBit j=decide (a/2 ^j%2=1):=Nat.testBit_eq_decide_div_mod_eq ..
  by_cases e:j=i
  . subst e;rw [c];by_cases d:a/2 ^j%2=1<;>simp [d]
  . have f: ¬i=j:=fun h=>e h.symm
    split<;>simp [Nat.testBit_two_pow,e,f]
 rw [this]
theorem TabY.mo{M:Nat->Prop}{h h':Hp}{k:Nat}{d:Prop}{e:Gra}{p:Value}{T:Option Tab}(t:TabY h k d p e T)(g:Mo M h h')(f: ∀b,M b->b<=k):TabY h' k d p e T:=by
 cases T with
 |none=>exact t| some T=>
   obtain⟨⟨m,a,b⟩,c⟩:=t;exact⟨⟨m,a,b.mo g (fun x i=>by have:=f x i;omega)⟩,c⟩
theorem TabY.fl{a:Prop}{c:Gra}{p:Value}{T:Option Tab}(t:TabY h k a p c T):Fl p:=by
 cases T with
 |none=>have t:p=.pointer none:=t;subst t;exact bD|some T=>obtain⟨⟨m,_,b⟩,_⟩:=t;obtain⟨_,_,_,_,rfl,_⟩:=b.ex;exact bD
def sV(O:List Int)(i:Nat):Int:=if O.length=0 then 0 else(O.getD (i%O.length) 0).tmod 4
theorem made32_ok  (ok:OZ h0) {vB vO vM vN q5 q6 q7:Value}  {B O ms W:List Int} (hB:SlW h0 .u8 vB B) (hO:SlW h0 .u8 vO O) (cO: ∀x∈O,0<=x/\x<=255) (hM:SlW h0 .u8 vM ms) (cv: ∀x∈ms,0<=x/\x<=255) (hN:SlW h0 .i64 vN W) (cN: ∀x∈W,-9223372036854775808<=x/\x<=9223372036854775807) (hh:a<=255):
 Ret zM 8 [.agg ⟨[vB,vO,vM,.int .u8 (a:Nat),vN,q5,q6,q7]⟩] h0 fun r h'=>Gr h0 h'/\ ∃b I,r=ptrTo b/\mR h' b I (a/4%2=0) (a/8%2=0)/\I.T.isSome=decide (a%2=1)/\I.C.isSome=decide (a/2%2=1):=by
 have S:=Si ok;have fB:=hB.sl.fl;have fO:=hO.sl.fl;have fM:=hM.sl.fl;have fN:=hN.sl.fl;have mn:min (B.length:Int) 50=((min B.length 50:Nat):Int):=by omega
 obtain⟨b3,cx,sB,bB⟩:=hB.low (kd':=.i64) (n:=min B.length 50) Tryz.t22.1 Tryz.t5.2.2.1 (Nat.min_le_left _ _);have cA:=sB.fl;refine aa (n:=278) (rs:=[.tmp 2]) rfl Tryz.e8 rfl rfl rfl (lbt rfl) ?_;simp only [BZ,seval];refine ac (aV (by intro x e;cases e)) S ?_;clear S;intro h A S ef;simp only [ae]at S;simp only [BZ,XE,XQ,hB.sl.lenq,mn,cx,cA,S.ld (b:=A) (o:=0) m0 rfl,seval];refine ac (aV (by intro x e;cases e)) S ?_;clear S;intro h bd S b5;simp only [ae]at S;have cT:az h 1 (encI .u8) b3 (B.take (min B.length 50)):=sB.gr S.gr;have nB: ¬aq b3 bd:=fun L=>by have:=sB.lt ok L;omega
 have cW:(B.take (min B.length 50)).length<1000000:=by rw [List.length_take];omega
 simp only [BZ,seval];have k0:=S.fr.n;have ap:=S.apart;simp only [keys,Xm,Xr,Xe,Xa,X6,Xk,Xf,or_false,not_or]at ap;have ep:=(S.row (b:=A) m1).lt S.ok;refine step_ret (raw_ok S.ok (S.row m0) ⟨cT,nB,cW,by omega⟩) ?_;rintro v h ⟨fr,u,vx,vy,va,rfl,af,ga,hz⟩;have n1:=af.n1;have n2:=af.n2;replace S:=S.drop1.step fr (fun c L=>by subst L;exact .inr b5) (fun c L e=>by simp [keys]at L;omega);have fx:=ga.X.fl;have fy:=ga.Y.fl;have fa:=ga.A.fl;have gS:=S.gr;have S0:=S;replace S:=S.base;simp only [BZ,jh];refine ac aA S ?_;clear S;intro h D S ei;simp only [BZ,seval];refine aC (S.store (i:=0) rfl Tryz.t57.2.1 (by intro x e;cases e) rfl (by simp only [ae,List.all_cons,List.all_nil,fx.2.1,fy.2.1,fa.2.1,Xs];rfl) (lbt rfl) ono) ?_;clear S;rintro h ⟨S,Z⟩;simp only [LC,ae,lay,XI,XJ,seval]at S;have cY:=ga.mo S.fr (fun c L Y=>by have:=hz c L;simp [keys]at Y;omega);simp only [BZ,List.drop_zero,List.take_succ_cons,List.take_zero,S.lds (b:=D) (o:=0) (n:=4) m0 (lbt rfl),seval];have q4:=(S.row (b:=D) m0).lt S.ok;have q1:=(S.row (b:=A) m1).lt S.ok;refine step_ret (netNew_ok S.ok af.b cY) ?_;rintro v h ⟨p,rfl,g,hp⟩;replace S:=S.call g;clear g;obtain⟨P,rfl⟩:=hp.ptr;replace S:=S0.rebase S;have ay:=S.gr;have er:=S.ok;clear S0;replace S:=S.base;simp only [LC,keys,Xm,Xr,Xe]at S;rename Hp=>hC0;have z4:=(S.row (b:=D) m0).lt S.ok;have z1:=(S.row (b:=A) m1).lt S.ok;simp only [BZ,seval];refine ac (aV (by intro x e;cases e)) S ?_;clear S;intro h F S b6;simp only [ae]at S;have d1:decide (((a%2:Nat):Int)=1)=decide (a%2=1):=decide_eq_decide.2 (by omega);have a2: ∀(t:TypeId) (p q:Operand),bV zM .and t p q (.int .u8 (a:Nat)) (.int .u8 2)=some (.int .u8 ((if a/2%2=1 then 2 else 0:Nat):Int)):=fun t p q=>zq hh (j:=1) (by decide);have d2:decide (((if a/2%2=1 then 2 else 0:Nat):Int)=2)=decide (a/2%2=1):=decide_eq_decide.2 (by split<;>omega);have a4: ∀(t:TypeId) (p q:Operand),bV zM .and t p q (.int .u8 (a:Nat)) (.int .u8 4)=some (.int .u8 ((if a/4%2=1 then 4 else 0:Nat):Int)):=fun t p q=>zq hh (j:=2) (by decide);have d4:decide (((if a/4%2=1 then 4 else 0:Nat):Int)=4)=decide (a/4%2=1):=decide_eq_decide.2 (by split<;>omega);have a8: ∀(t:TypeId) (p q:Operand),bV zM .and t p q (.int .u8 (a:Nat)) (.int .u8 8)=some (.int .u8 ((if a/8%2=1 then 8 else 0:Nat):Int)):=fun t p q=>zq hh (j:=3) (by decide);have d8:decide (((if a/8%2=1 then 8 else 0:Nat):Int)=8)=decide (a/8%2=1):=decide_eq_decide.2 (by split<;>omega);have n7:=b6;have nb: ∀c,c<h0.n-> ¬c∈[D,A]:=fun c L Y=>by simp only [Xk,Xf,or_false]at Y;have:=gS.n;omega
 have c2: ∀c,c∈[D,A]->h0.n<=c:=fun c Y=>by simp only [Xk,Xf,or_false]at Y;have:=gS.n;omega
 have c4: ∀c,aq vM c->c<h0.n:=fun c L=>hM.sl.lt ok L;have c5: ∀c,aq vO c->c<h0.n:=fun c L=>hO.sl.lt ok L;have br: ∀c,aq vN c->c<h0.n:=fun c L=>hN.sl.lt ok L;have bi: ∀{N:Hp},Mo (· ∈[D,A]) hC0 N->aS N _ (ptrTo P) u:=fun f=>hp.mo f (fun c Y=>by simp only [Xk,Xf,or_false]at Y;omega);simp only [BZ,b_andB2 (show a<256 by omega),d1,S.ld (b:=A) (o:=3) m2 rfl,seval];refine s8 (fun s h'=> ∃pt T,St (· ∈[D,A]) hC0 h' [(F,.row [ptrTo P,pt,.pointer none,.pointer none] 1),(D,.row [.int .i64 u.nodes,vx,vy,va] 1),(A,.row [vB,vO,vM,.int .u8 (a:Nat),vN,q5,q6,q7] 1)] []/\TabY h' F (a/4%2=0) pt u T/\T.isSome=decide (a%2=1)/\s 1=ptrTo A/\s 4=ptrTo D/\s 5=ptrTo P/\s 7=ptrTo F) ?_ ?_ ?_
 . intro a1;have c6:(u.nodes:Int)≠0:=(by omega);have da:an .u8 ((a:Int).tdiv 16)=((a/16:Nat):Int):=(by rw [XX (by omega),show(a:Int)/16=((a/16:Nat):Int) by omega];exact xw rfl (by simp only [pw];omega));have db:an .i64 ((a/16:Nat):Int)=((a/16:Nat):Int):=(by rw [wrap64]<;>omega);have b8:((a/16:Nat):Int).tmod (u.nodes:Int)=((a/16%u.nodes:Nat):Int):=(by rw [Xb (by omega)];exact(Xu _ _).symm);have es:a/16%u.nodes<u.nodes:=XM _ (by omega);simp only [BZ,jz,cP,ju,mL (n:=16) (by decide),da,db,jL c6,b8,S.ld (b:=A) (o:=3) m2 rfl,S.ld (b:=D) (o:=0) m1 rfl,seval];generalize et:((a/16%u.nodes:Nat):Int)=x0;have bq:0<=x0/\x0<u.nodes:=(by omega);refine ac (ce (by exact Tryz.t41.1) (by exact Xp) (by decide) (by rfl)) S ?_;clear S;intro h bt S el;simp only [LC,bH,cg,ae,Xq,Xl,Xo,Xx,seval]at S;simp only [BZ,seval];refine rx (fun s h'=> ∃(X:Value) (l:List Int) (G:List GL),St (· ∈[D,A]) hC0 h' [(bt,.row [.int .i64 x0] 1),(F,.row [ptrTo P,.pointer none,.pointer none,.pointer none] 1),(D,.row [.int .i64 u.nodes,vx,vy,va] 1),(A,.row [vB,vO,vM,.int .u8 (a:Nat),vN,q5,q6,q7] 1)] G/\((G=[]/\X=.slice (some ⟨bt,0,none⟩) 1 1/\l=[x0])\/G=[(X,1,ints l)])/\iS u.nodes l/\1<=l.length/\l.length<=4/\s 1=ptrTo A/\s 4=ptrTo D/\s 5=ptrTo P/\s 7=ptrTo F/\s 8=X)
    (fun(i:Nat) s h'=>i<=ms.length/\i<=3/\ ∃(X:Value) (l:List Int) (G:List GL),St (· ∈[D,A]) hC0 h' [(bt,.row [.int .i64 x0] 1),(F,.row [ptrTo P,.pointer none,.pointer none,.pointer none] 1),(D,.row [.int .i64 u.nodes,vx,vy,va] 1),(A,.row [vB,vO,vM,.int .u8 (a:Nat),vN,q5,q6,q7] 1)] G/\((G=[]/\X=.slice (some ⟨bt,0,none⟩) 1 1/\l=[x0])\/G=[(X,1,ints l)])/\iS u.nodes l/\1<=l.length/\l.length<=i+1/\s 1=ptrTo A/\s 4=ptrTo D/\s 5=ptrTo P/\s 7=ptrTo F/\s 8=X/\s 9=.int .i64 i) (fun i=>ms.length-i) ?_ ?_ 0 ⟨Xi _,Xi _,_,[x0],[],S,.inl ⟨rfl,rfl,rfl⟩,(mayL_nil _).push (by simp) bq.1 bq.2 (by simp),XT _,by simp,by simp [aB,ah]⟩
   . clear S;intro i ih s h' ⟨V,hi3,X,l,G,S,hG,hl,hl0,hli,E,H,J,r7,r8,r9⟩;have b9:=(hM.sl.gr ay).mo S.fr (fun c L=>nb c (c4 c L));have aL: ∀(n:Nat) (d:List Deferred) (rc:Option (Value×Bool)) (ax:Nat->Value),ax 1=ptrTo A->ax 4=ptrTo D->ax 5=ptrTo P->ax 7=ptrTo F->ax 8=X->JP n d rc (fun s h'=> ∃(X:Value) (l:List Int) (G:List GL),St (· ∈[D,A]) hC0 h' [(bt,.row [.int .i64 x0] 1),(F,.row [ptrTo P,.pointer none,.pointer none,.pointer none] 1),(D,.row [.int .i64 u.nodes,vx,vy,va] 1),(A,.row [vB,vO,vM,.int .u8 (a:Nat),vN,q5,q6,q7] 1)] G/\((G=[]/\X=.slice (some ⟨bt,0,none⟩) 1 1/\l=[x0])\/G=[(X,1,ints l)])/\iS u.nodes l/\1<=l.length/\l.length<=4/\s 1=ptrTo A/\s 4=ptrTo D/\s 5=ptrTo P/\s 7=ptrTo F/\s 8=X) .normal (LL n ax d rc) h':=fun n d rc ax e1 e4 e5 e7 e8=>dH ⟨X,l,G,S,hG,hl,hl0,by omega,e1,e4,e5,e7,e8⟩;have sR:az h' 1 (encI .i64) X l:=by
      rcases hG with⟨_,rfl,rfl⟩|rfl
      . exact .inr ⟨bt,0,none,1,rfl,XT _,S.lds (b:=bt) (o:=0) (n:=1*1) m0 (lbt rfl)⟩
      . exact(S.gown _ m0).1.sl rfl (fun _=>rfl) (by decide)
     by_cases hlt:i<ms.length
     . by_cases h3:i<3
       . have c3:(i:Int)<3:=(by omega);obtain⟨c,o,a3,bk⟩:=b9.ix (kd:=.i64) (bO .u8) hlt;have hx:=cv _ (XB hlt);obtain⟨x,ex⟩: ∃x:Nat,ms[i]=x:=⟨ms[i].toNat,by omega⟩;rw [ex]at bk hx;have nz:(u.nodes:Int)≠0:=(by omega);have wc:an .i64 (x:Int)=(x:Int):=(by rw [wrap64]<;>omega);have tm:(x:Int).tmod (u.nodes:Int)=((x%u.nodes:Nat):Int):=(by rw [Xb (by omega)];exact(Xu _ _).symm);have ai:x%u.nodes<u.nodes:=XM _ (by omega);have w:an .i64 ((i:Int)+1)=((i+1:Nat):Int):=(by rw [wrap64]<;>omega);simp only [BZ,E,r9,hM.sl.lenq,aF,hlt,c3,S.ld (b:=A) (o:=2) m3 rfl,seval];refine ao (av rfl) (q:=0) (ps:=[]) (by kernel_rfl) ?_;simp only [BZ,jz,cP,ju,cls,E,H,r9,a3,bk,encI,wc,jL nz,tm,S.ld (b:=D) (o:=0) m2 rfl,S.ld (b:=A) (o:=2) m3 rfl,seval];generalize x%u.nodes=v at ai;clear b9;refine aW (fun(k:Nat) s N=>k<=l.length/\N=h'/\s 1=ptrTo A/\s 4=ptrTo D/\s 5=ptrTo P/\s 7=ptrTo F/\s 8=X/\s 9=.int .i64 i/\s 10=.int .i64 v/\s 11=.bool (decide ((v:Int)∈l.take k))/\s 12=.int .i64 k) (fun k=>l.length-k) ?_ 0 _ _ ⟨Xi _,rfl,by simp [aB,E,ah,H,J,r7,r8,r9]⟩;clear E H J r7 r8 r9;rintro k ca s N ⟨hk,rfl,E,H,J,r7,r8,r9,bl,ad,bn⟩;have wk:an .i64 ((k:Int)+1)=((k+1:Nat):Int):=(by rw [wrap64]<;>omega);by_cases a0:k<l.length
         . have tk:l.take (k+1)=l.take k++[l[k]]:=XO a0;by_cases Y:(v:Int)∈l.take k
           . rw [decide_eq_true Y]at ad;have dc:(v:Int)∈l.take (k+1):=(by rw [tk];exact zO _ Y);simp only [BZ,r8,ad,bn,sR.lenq,aF,a0,wk,seval];exact ca (k+1) _ _ (by omega) ⟨by omega,rfl,by simp [aB,E,ah,H,J,r7,r8,r9,bl,dc]⟩
           . rw [decide_eq_false Y]at ad;obtain⟨c1,o1,i1,y1⟩:=sR.ix (kd:=.i64) (bO .i64) a0;have m2:decide (l[k]=(v:Int))=decide ((v:Int)∈l.take (k+1)):=decide_eq_decide.2 ⟨fun he=>by rw [tk,he];exact Xh _ (List.mem_singleton.2 rfl),fun h=>by
              rw [tk]at h;rcases List.mem_append.1 h with h|h
              . exact absurd h Y
              . exact(List.mem_singleton.1 h).symm⟩
             simp only [BZ,r8,bl,ad,bn,sR.lenq,aF,a0,wk,i1,y1,encI,m2,seval];exact ca (k+1) _ _ (by omega) ⟨by omega,rfl,by simp [aB,E,ah,H,J,r7,r8,r9,bl]⟩
         . have ek:k=l.length:=(by omega);subst ek;rw [List.take_length]at ad;by_cases Y:(v:Int)∈l
           . rw [decide_eq_true Y]at ad;simp only [BZ,r8,r9,ad,bn,sR.lenq,aF,a0,w,seval];exact ih (i+1) _ _ (by omega) ⟨by omega,by omega,X,l,G,S,hG,hl,hl0,by omega,by simp [aB,E,ah,H,J,r7,r8]⟩
           . rw [decide_eq_false Y]at ad;simp only [BZ,r8,r9,bl,ad,bn,sR.lenq,aF,a0,seval];refine ac (ce (by exact Tryz.t41.1) (by exact Xp) (by decide) (by rfl)) S ?_;clear S;intro h bu S em;simp only [LC,bH,cg,ae,Xq,Xl,Xo,Xx,seval]at S;simp only [BZ,seval];have bv:aK h 1 (.slice (some ⟨bu,0,none⟩) 1 1)=some (1,ints [(v:Int)]):=(by simp only [aK];rw [S.lds (b:=bu) (o:=0) (n:=1*1) m0 (lbt rfl)];rfl);replace S:=S.drop1;have cc: ∃h3 v',dK zM h [41,41] X (.slice (some ⟨bu,0,none⟩) 1 1)=some (h3,v')/\St (· ∈[D,A]) hC0 h3 [(bt,.row [.int .i64 x0] 1),(F,.row [ptrTo P,.pointer none,.pointer none,.pointer none] 1),(D,.row [.int .i64 u.nodes,vx,vy,va] 1),(A,.row [vB,vO,vM,.int .u8 (a:Nat),vN,q5,q6,q7] 1)] [(v',1,ints (l++[(v:Int)]))]:=by
              rcases hG with⟨rfl,rfl,rfl⟩|rfl
              . rw [iE];exact St.growB S (b:=bt) (len:=1) (m:=1) (new:=ints [(v:Int)]) (S.row m0) rfl Tryz.t41.1 Xp (by decide) Tryz.t41.2.2.2.2.2 bv rfl (by decide) (by decide) (by rw [cC];exact lbt rfl)
              . rw [iE];exact S.grow (j:=0) (m:=1) (new:=ints [(v:Int)]) rfl Tryz.t41.1 Xp (by decide) Tryz.t41.2.2.2.2.2 bv rfl (by decide) rfl (by rw [cC,cC];simp;omega)
             refine dE cc ?_;clear S bv hG cc sR aL;rintro h dd S;simp only [BZ,r9,w,seval];exact ih (i+1) _ _ (by omega) ⟨by omega,by omega,dd,l++[(v:Int)],_,S,.inr rfl,hl.push (by omega) (by omega) (by omega) Y,by simp,by simp;omega,by simp [aB,E,ah,H,J,r7]⟩
       . have c3: ¬(i:Int)<3:=(by omega);simp only [BZ,E,r9,hM.sl.lenq,aF,hlt,c3,S.ld (b:=A) (o:=2) m3 rfl,seval];exact aL _ _ _ _ (by simp [aB,E,ah]) (by simp [aB,H,ah]) (by simp [aB,J,ah]) (by simp [aB,r7,ah]) (by simp [aB,r8])
     . simp only [BZ,E,r9,hM.sl.lenq,aF,hlt,S.ld (b:=A) (o:=2) m3 rfl,seval];exact aL _ _ _ _ (by simp [aB,E,ah]) (by simp [aB,H,ah]) (by simp [aB,J,ah]) (by simp [aB,r7,ah]) (by simp [aB,r8])
   clear S;intro s h' ⟨X,l,G,S,hG,hl,hl0,hl4,E,H,J,r7,r8⟩;have sR: ∀{x:Hp} {L':List (Nat×Ob)} {G':List GL},St (· ∈[D,A]) hC0 x L' G'->(bt,Ob.row [.int .i64 x0] 1)∈L'->(∀p∈G,p∈G')->az x 1 (encI .i64) X l:=fun {x L' G'} U hL de=>by
    rcases hG with⟨_,rfl,rfl⟩|rfl
    . exact .inr ⟨bt,0,none,1,rfl,XT _,U.lds (b:=bt) (o:=0) (n:=1*1) hL (lbt rfl)⟩
    . exact ia.sl (xs:=l) (enc:=encI .i64) (U.gown (X,1,ints l) (de _ m0)).1 rfl (fun _=>rfl) (by decide)
   have l1:1<=l.length:=hl0;have fR:Fl X:=(sR S m0 (fun p hp=>hp)).fl;have k7: ∀{x:Hp} {L':List (Nat×Ob)} {G':List GL} {o:Ob},St (· ∈[D,A]) hC0 x L' G'->(F,o)∈L'->F<x.n:=fun U Y=>(U.own _ Y).2.lt U.ok;have kb: ∀c,c∈[D,A]->c<=F:=fun c Y=>(by simp only [Xk,Xf,or_false]at Y;omega);simp only [BZ,J,r7,r8,seval];refine step_ret (tabOf_ok S.ok af (bi S.fr) (sR S m0 (fun p hp=>hp)) (by omega)) ?_;rintro pt h ⟨g,hT⟩;replace hT:=(hT.resolve_left (fun h=>h.1 hl)).2;have kn:=k7 S m1;replace S:=S.call g;have own: ∀i,i<l.length->ik u.nodes (toR u l i)/\ik u.nodes (frR u l i):=fun i V=>ownRows S.ok af (bi S.fr) hl V;have tY:TabY h F (a/4%2=0) pt u (some (tabL l (toR u l) (frR u l))):=⟨⟨_,kn,tabL_at hT⟩,tabL_L hl (by omega) l1 (fun i V=>(own i V).1) (fun i V=>(own i V).2),hl4,hl,fun _ i V=>⟨lc V,lc V⟩⟩;have bx:=tY.fl;simp only [BZ,seval];refine aC (aE S (i:=1) rfl Tryz.t32.2.2.1 bx (Xg (lbt rfl)) ono) ?_;clear S hT;rintro h ⟨S,Z⟩;simp only [LC,ae,lay,XI,XJ,seval]at S;replace tY:=tY.mo Z (fun b e=>Nat.le_of_eq e);have dj: ∃b,pt=ptrTo b:=(by obtain⟨⟨m,_,x⟩,_⟩:=tY;obtain⟨b,_,_,_,e,_⟩:=x.ex;exact⟨b,e⟩);obtain⟨bT,rfl⟩:=dj;by_cases h4:a/4%2=1/\0<W.length
   . obtain⟨h4,hz⟩:=h4;have cN:(0<(W.length:Int))=True:=eq_true (by omega);have e4:decide (a/4%2=1)=true:=decide_eq_true h4;simp only [BZ,E,r7,a4,d4,e4,hN.sl.lenq,cN,S.ld (b:=A) (o:=3) m3 rfl,S.ld (b:=A) (o:=4) m3 rfl,S.ld (b:=F) (o:=1) m1 rfl,seval];obtain⟨⟨mT,_,tA⟩,tL,_⟩:=tY;have en: ∀i,i<l.length->ik u.nodes (toR u l i)/\ik u.nodes (frR u l i):=own;replace tA:TabAt _ mT (ptrTo bT) u.nodes l (toR u l) (frR u l):=tA.congr (fun i V=>lc V) (fun i V=>lc V);obtain⟨nB,bE⟩: ∃n,n=h.n:=⟨_,rfl⟩;have kS: ∀c∈keys [(bt,.row [.int .i64 x0] 1),(F,.row [ptrTo P,ptrTo bT,.pointer none,.pointer none] 1),(D,.row [.int .i64 u.nodes,vx,vy,va] 1),(A,.row [vB,vO,vM,.int .u8 (a:Nat),vN,q5,q6,q7] 1)] G,c<nB:=fun c L=>(by rw [bE];exact S.key_lt L);have gN:hC0.n<=nB:=(by rw [bE];exact S.fr.n);refine step_ret (El S.ok tA (by omega) (fun i V=>by rw [(own i V).1.1];omega) (fun i V=>by rw [(own i V).2.1];omega)) ?_;rintro _ h ⟨g,vT,vF,kk,rfl,DT,DF,y1,y2⟩;rw [<-bE]at DT y1;obtain⟨nE,dm⟩: ∃n,n=h.n:=⟨_,rfl⟩;rw [<-dm]at DF y2;replace S:=S.call g;obtain⟨ta,tn,tc,eT⟩:=DT.form;obtain⟨fa,fn,fc,eF⟩:=DF.form;simp only [BZ,seval];refine aW (fun(i:Nat) s N=>i<=l.length/\ ∃(R Q:Nat->List Int),St (· ∈[D,A]) hC0 N [(bt,.row [.int .i64 x0] 1),(F,.row [ptrTo P,ptrTo bT,.pointer none,.pointer none] 1),(D,.row [.int .i64 u.nodes,vx,vy,va] 1),(A,.row [vB,vO,vM,.int .u8 (a:Nat),vN,q5,q6,q7] 1)] G/\LLD N nB kk vT l.length R/\LLD N kk nE vF l.length Q/\(∀i,i<l.length->ik u.nodes (R i)/\ik u.nodes (Q i))/\s 1=ptrTo A/\s 4=ptrTo D/\s 5=ptrTo P/\s 7=ptrTo F/\s 8=X/\s 13=vT/\s 14=vF/\s 15=.int .i64 i) (fun i=>l.length-i) ?_ 0 _ _ ⟨Xi _,_,_,S,DT,DF,own,by simp [aB,E,ah,H,J,r7,r8]⟩;clear S DT DF E H J r7 r8 g Z;intro i ih s N ⟨V,R,Q,S,DT,DF,hRQ,E,H,J,r7,r8,r13,r14,r15⟩;have w:an .i64 ((i:Int)+1)=((i+1:Nat):Int):=(by rw [wrap64]<;>omega);by_cases hlt:i<l.length
     . simp only [BZ,r8,r15,(sR S m0 (fun p hp=>hp)).lenq,aF,hlt,seval];refine aW (fun(v:Nat) s N=>v<=u.nodes/\ ∃(R Q:Nat->List Int),St (· ∈[D,A]) hC0 N [(bt,.row [.int .i64 x0] 1),(F,.row [ptrTo P,ptrTo bT,.pointer none,.pointer none] 1),(D,.row [.int .i64 u.nodes,vx,vy,va] 1),(A,.row [vB,vO,vM,.int .u8 (a:Nat),vN,q5,q6,q7] 1)] G/\LLD N nB kk vT l.length R/\LLD N kk nE vF l.length Q/\(∀i,i<l.length->ik u.nodes (R i)/\ik u.nodes (Q i))/\s 1=ptrTo A/\s 4=ptrTo D/\s 5=ptrTo P/\s 7=ptrTo F/\s 8=X/\s 13=vT/\s 14=vF/\s 15=.int .i64 i/\s 16=.int .i64 v) (fun v=>u.nodes-v) ?_ 0 _ _ ⟨Xi _,_,_,S,DT,DF,hRQ,by simp [aB,E,ah,H,J,r7,r8,r13,r14,r15]⟩;clear S DT DF hRQ E H J r7 r8 r13 r14 r15 R Q;intro v dn s N ⟨hv,R,Q,S,DT,DF,hRQ,E,H,J,r7,r8,r13,r14,r15,r16⟩;have wv:an .i64 ((v:Int)+1)=((v+1:Nat):Int):=(by rw [wrap64]<;>omega);by_cases ch:v<u.nodes
       . have a5:=(hN.sl.gr ay).mo S.fr (fun c L=>nb c (br c L));have c0:(0:Int)<(W.length:Int):=(by omega);have cj:(W.length:Int)≠0:=(by omega);have w1:an .i64 ((i:Int)+(v:Int))=((i+v:Nat):Int):=(by rw [wrap64]<;>omega);have w2:an .i64 (3*(i:Int))=((3*i:Nat):Int):=(by rw [wrap64]<;>omega);have w4:an .i64 (2*(v:Int))=((2*v:Nat):Int):=(by rw [wrap64]<;>omega);have w3:an .i64 (((3*i:Nat):Int)+((2*v:Nat):Int))=((3*i+2*v:Nat):Int):=(by rw [wrap64]<;>omega);have ds:((i+v:Nat):Int).tmod (W.length:Int)=(((i+v)%W.length:Nat):Int):=(by rw [Xb (Int.natCast_nonneg _)];exact(Xu _ _).symm);have dt:((3*i+2*v:Nat):Int).tmod (W.length:Int)=(((3*i+2*v)%W.length:Nat):Int):=(by rw [Xb (Int.natCast_nonneg _)];exact(Xu _ _).symm);simp only [BZ,H,r16,aF,ch,S.ld (b:=D) (o:=0) m2 rfl,seval];refine ao (av rfl) (q:=0) (ps:=[]) (by kernel_rfl) ?_;have bP:R i≠ []:=fun e=>(by have:=(hRQ i hlt).1;rw [e]at this;have:=this.1;simp at this;omega);obtain⟨c,⟨q,o,e1,e2⟩,a6,dv,dx,a7⟩:=DT.at hlt bP;have ba:=(hRQ i hlt).1.1;have iv:mQ (some 1) (.slice (some ⟨c,0,some 1⟩) (R i).length (R i).length) (.int .i64 (v:Nat))=some (.pointer (some ⟨c,v,none⟩)):=(by rw [ou,iD (by omega),uL,Xl,Xo]);obtain⟨cn,on,bb,ak⟩:=a5.ix (kd:=.i64) (bO .i64) (XM (i+v) (show 0<W.length by omega));generalize W[(i+v)%W.length]'(XM (i+v) (by omega))=z at ak;simp only [BZ,cls,E,r13,r15,r16,hN.sl.lenq,jL cj,w1,ds,e1,e2,bb,ak,encI,iv,S.ld (b:=A) (o:=4) m3 rfl,seval];have T:=St.init1 S.ok (o:=.row (ints (R i)) 1) a6;refine cM (aE T (i:=0) rfl Tryz.t2.2.2.1 aZ (by rw [cC];omega) ono) ?_;clear T;rintro h3 ⟨T,Z⟩;simp only [List.set_cons_zero,ints_set]at T;have kc: ∀b∈keys [(bt,.row [.int .i64 x0] 1),(F,.row [ptrTo P,ptrTo bT,.pointer none,.pointer none] 1),(D,.row [.int .i64 u.nodes,vx,vy,va] 1),(A,.row [vB,vO,vM,.int .u8 (a:Nat),vN,q5,q6,q7] 1)] G,b≠c:=fun b hb e=>(by have:=kS b hb;omega);replace S:=S.step Z (fun b e=>.inr (by have e:b=c:=e;omega)) (fun b hb e=>kc b hb e);have D1:=a7 _ _ Z (XR ..) (T.row m0);have D2:=DF.mo Z (fun b e=>by have e:b=c:=e;omega);have bc:ik u.nodes ((R i).set v (min (max z 0) 72057594037927936)):=⟨by rw [XR];exact ba,fun x hx=>by
          rcases XY hx with h|h
          . exact(hRQ i hlt).1.2 x h
          . omega⟩
         clear DT DF T a7 a6 e2;simp only [BZ,seval];have dy:=bc;have a5:=(hN.sl.gr ay).mo S.fr (fun c L=>nb c (br c L));refine ao (av rfl) (q:=0) (ps:=[]) (by kernel_rfl) ?_;have bP:Q i≠ []:=fun e=>(by have:=(hRQ i hlt).2;rw [e]at this;have:=this.1;simp at this;omega);obtain⟨c,⟨q,o,e1,e2⟩,a6,dv,dx,a7⟩:=D2.at hlt bP;have ba:=(hRQ i hlt).2.1;have iv:mQ (some 1) (.slice (some ⟨c,0,some 1⟩) (Q i).length (Q i).length) (.int .i64 (v:Nat))=some (.pointer (some ⟨c,v,none⟩)):=(by rw [ou,iD (by omega),uL,Xl,Xo]);obtain⟨cn,on,bb,ak⟩:=a5.ix (kd:=.i64) (bO .i64) (XM (3*i+2*v) (show 0<W.length by omega));generalize W[(3*i+2*v)%W.length]'(XM (3*i+2*v) (by omega))=z at ak;simp only [BZ,cls,E,r14,r15,r16,hN.sl.lenq,jL cj,w2,w4,w3,dt,e1,e2,bb,ak,encI,iv,S.ld (b:=A) (o:=4) m3 rfl,seval];have T:=St.init1 S.ok (o:=.row (ints (Q i)) 1) a6;refine cM (aE T (i:=0) rfl Tryz.t2.2.2.1 aZ (by rw [cC];omega) ono) ?_;clear T;rintro h3 ⟨T,Z⟩;simp only [List.set_cons_zero,ints_set]at T;have kc: ∀b∈keys [(bt,.row [.int .i64 x0] 1),(F,.row [ptrTo P,ptrTo bT,.pointer none,.pointer none] 1),(D,.row [.int .i64 u.nodes,vx,vy,va] 1),(A,.row [vB,vO,vM,.int .u8 (a:Nat),vN,q5,q6,q7] 1)] G,b≠c:=fun b hb e=>(by have:=kS b hb;omega);replace S:=S.step Z (fun b e=>.inr (by have e:b=c:=e;omega)) (fun b hb e=>kc b hb e);have D3:=a7 _ _ Z (XR ..) (T.row m0);have D4:=D1.mo Z (fun b e=>by have e:b=c:=e;omega);have bc:ik u.nodes ((Q i).set v (min (max z 0) 72057594037927936)):=⟨by rw [XR];exact ba,fun x hx=>by
          rcases XY hx with h|h
          . exact(hRQ i hlt).2.2 x h
          . omega⟩
         clear D2 D1 T a7 a6 e2;simp only [BZ,r16,wv,seval];exact dn (v+1) _ _ (by omega) ⟨by omega,_,_,S,D4,D3,fun j hj=>⟨by
          by_cases ej:j=i
          . subst ej;simp only [if_true];exact dy
          . simp only [if_neg ej];exact(hRQ j hj).1,by
          by_cases ej:j=i
          . subst ej;simp only [if_true];exact bc
          . simp only [if_neg ej];exact(hRQ j hj).2⟩,by simp [aB,E,ah,H,J,r7,r8,r13,r14,r15]⟩
       . simp only [BZ,H,r7,r8,r13,r14,r15,r16,aF,ch,w,S.ld (b:=D) (o:=0) m2 rfl,seval];exact ih (i+1) _ _ (by omega) ⟨by omega,R,Q,S,DT,DF,hRQ,by simp [aB,E,ah,H,J,r7,r8,r13,r14]⟩
     . simp only [BZ,H,r7,r8,r13,r14,r15,(sR S m0 (fun p hp=>hp)).lenq,aF,hlt,S.ld (b:=D) (o:=0) m2 rfl,seval];refine step_ret (make_ok S.ok (sR S m0 (fun p hp=>hp)) DT.ll DF.ll (by omega) (by omega) hl (fun i V=>(hRQ i V).1) (fun i V=>(hRQ i V).2)) ?_;rintro pt h ⟨g,hT⟩;have kn:=k7 S m1;replace S:=S.call g;have tY:TabY h F (a/4%2=0) pt u (some (tabL l R Q)):=⟨⟨_,kn,tabL_at hT⟩,tabL_L hl (by omega) l1 (fun i V=>(hRQ i V).1) (fun i V=>(hRQ i V).2),hl4,hl,fun h=>absurd h (by omega)⟩;have bx:=tY.fl;simp only [BZ,seval];refine aC (aE S (i:=1) rfl Tryz.t32.2.2.1 bx (Xg (lbt rfl)) ono) ?_;clear S hT;rintro h ⟨S,Z⟩;simp only [LC,ae,lay,XI,XJ,seval]at S;replace tY:=tY.mo Z (fun b e=>Nat.le_of_eq e);simp only [BZ];refine dH ⟨_,_,(?_ :St (· ∈[D,A]) hC0 _ _ []),tY,?_,by simp [aB,E,ah,H,J,r7]⟩
       . exact S.sub (XN _ _) (XP _)
       . rw [a1];rfl
   . by_cases ck:a/4%2=1
     . have e4:decide (a/4%2=1)=true:=decide_eq_true ck;have cN:(0<(W.length:Int))=False:=eq_false (by omega);simp only [BZ,E,r7,a4,d4,e4,hN.sl.lenq,cN,S.ld (b:=A) (o:=3) m3 rfl,S.ld (b:=A) (o:=4) m3 rfl,S.ld (b:=F) (o:=1) m1 rfl,seval];exact dH ⟨_,_,S.sub (XN _ _) (XP _),tY,by rw [a1];rfl,by simp [aB,E,ah,H,J,r7]⟩
     . have e4:decide (a/4%2=1)=false:=decide_eq_false ck;simp only [BZ,E,a4,d4,e4,S.ld (b:=A) (o:=3) m3 rfl,seval];exact dH ⟨_,_,S.sub (XN _ _) (XP _),tY,by rw [a1];rfl,by simp [aB,E,ah,H,J,r7]⟩
 . intro a1;simp only [BZ];exact dH ⟨_,none,S,rfl,by rw [a1];rfl,by simp [aB,ah]⟩
 clear S;intro s hA ⟨pt,T,S,tY,hTs,E,H,J,r7⟩;simp only [BZ,E,a2,d2,S.ld (b:=A) (o:=3) m2 rfl,seval];refine s8 (fun s h'=> ∃pc pf C,St (· ∈[D,A]) hC0 h' [(F,.row [ptrTo P,pt,pc,pf] 1),(D,.row [.int .i64 u.nodes,vx,vy,va] 1),(A,.row [vB,vO,vM,.int .u8 (a:Nat),vN,q5,q6,q7] 1)] []/\TabY h' F (a/4%2=0) pt u T/\CelY h' (a/8%2=0) pc pf u C/\C.isSome=decide (a/2%2=1)/\s 1=ptrTo A/\s 4=ptrTo D/\s 5=ptrTo P/\s 7=ptrTo F) ?_ ?_ ?_
 . intro be;simp only [BZ];have S9:=S;replace S:=S.base;simp only [LC,keys,Xm,Xr,Xe]at S;have hq: ∀{N:Hp},Mo (· ∈[F,D,A]) hA N->Mo (· ∈[D,A]) hC0 N:=fun f=>S9.fr.trans f (fun c L=>by
    rcases List.mem_cons.1 L with rfl|L
    . exact .inr n7
    . exact .inl L)
   have kb: ∀c,c∈[F,D,A]->c<=F:=fun c Y=>(by simp only [Xk,Xf,or_false]at Y;omega);replace S:=S.nilG (k:=1);refine aW (fun(i:Nat) s h=>i<=u.nodes/\ ∃vQ,St (· ∈[F,D,A]) hA h [(F,.row [ptrTo P,pt,.pointer none,.pointer none] 1),(D,.row [.int .i64 u.nodes,vx,vy,va] 1),(A,.row [vB,vO,vM,.int .u8 (a:Nat),vN,q5,q6,q7] 1)] [(vQ,1,ints ((XL i).map (sV O)))]/\s 1=ptrTo A/\s 4=ptrTo D/\s 5=ptrTo P/\s 7=ptrTo F/\s 17=vQ/\s 18=.int .i64 i) (fun i=>u.nodes-i) ?_ 0 _ _ ⟨Xi _,_,S,by simp [aB,E,ah,H,J,r7]⟩;clear S;clear E H J r7;intro i ih s h ⟨V,vQ,S,E,H,J,r7,r17,r18⟩;have w:an .i64 ((i:Int)+1)=((i+1:Nat):Int):=(by rw [wrap64]<;>omega);have dF:=(hO.sl.gr ay).mo (hq S.fr) (fun c L=>nb c (c5 c L));by_cases hlt:i<u.nodes
   . by_cases cl:O.length=0
     . have c0: ¬(0:Int)<(O.length:Int):=(by omega);simp only [BZ,E,H,r17,r18,aF,hlt,hO.sl.lenq,c0,S.ld (b:=D) (o:=0) m1 rfl,S.ld (b:=A) (o:=1) m2 rfl,seval];refine ac (ce (by exact Tryz.t41.1) (by exact Xp) (by decide) (by rfl)) S ?_;clear S;intro h bs S cm;simp only [LC,bH,cg,ae,Xq,Xl,Xo,Xx,seval]at S;simp only [BZ,seval];refine dE (S.grow (j:=0) (m:=1) (new:=ints [(0:Int)]) rfl Tryz.t41.1 Xp (by decide) Tryz.t41.2.2.2.2.2 (by simp only [aK];rw [S.lds (b:=bs) (o:=0) (n:=1*1) m0 (lbt rfl)];rfl) rfl (by decide) rfl (by rw [cC,cC];simp;omega)) ?_;clear S;rintro h bX S;simp only [LC]at S;replace S:=S.drop1;rw [<-iE]at S;simp only [BZ,r18,w,seval];refine ih (i+1) _ _ (by omega) ⟨by omega,bX,?_,by simp [aB,E,ah,H,J,r7]⟩;rw [List.range_succ,List.map_append,List.map_singleton,show sV O i=(0:Int)from by unfold sV;rw [if_pos cl]];exact S
     . have c0:(0:Int)<(O.length:Int):=(by omega);have ai:i%O.length<O.length:=XM _ (by omega);have tm:(i:Int).tmod (O.length:Int)=((i%O.length:Nat):Int):=(by rw [Xb (by omega)];exact(Xu _ _).symm);obtain⟨c,o,a3,bk⟩:=dF.ix (kd:=.i64) (bO _) ai;have cz:(O.length:Int)≠0:=(by omega);have hx:=cO _ (XB ai);have t4:(O[i%O.length]).tmod 4=O[i%O.length]%4:=Xb hx.1;have wc:an .i64 ((O[i%O.length]).tmod 4)=(O[i%O.length]).tmod 4:=(by rw [wrap64]<;>omega);simp only [BZ,E,H,r18,aF,hlt,hO.sl.lenq,c0,S.ld (b:=D) (o:=0) m1 rfl,S.ld (b:=A) (o:=1) m2 rfl,seval];refine ao (av rfl) (q:=0) (ps:=[]) (by kernel_rfl) ?_;simp only [BZ,jz,cP,ju,cls,E,r17,r18,hO.sl.lenq,jL cz,tm,a3,bk,encI,jL (n:=4) (by decide),wc,S.ld (b:=A) (o:=1) m2 rfl,seval];refine ac (ce (by exact Tryz.t41.1) (by exact Xp) (by decide) (by rfl)) S ?_;clear S;intro h bs S cm;simp only [LC,bH,cg,ae,Xq,Xl,Xo,Xx,seval]at S;simp only [BZ,seval];refine dE (S.grow (j:=0) (m:=1) (new:=ints [(O[i%O.length]).tmod 4]) rfl Tryz.t41.1 Xp (by decide) Tryz.t41.2.2.2.2.2 (by simp only [aK];rw [S.lds (b:=bs) (o:=0) (n:=1*1) m0 (lbt rfl)];rfl) rfl (by decide) rfl (by rw [cC,cC];simp;omega)) ?_;clear S;rintro h bX S;simp only [LC]at S;replace S:=S.drop1;rw [<-iE]at S;simp only [BZ,r18,w,seval];refine ih (i+1) _ _ (by omega) ⟨by omega,bX,?_,by simp [aB,E,ah,H,J,r7]⟩;rw [List.range_succ,List.map_append,List.map_singleton,show sV O i=(O[i%O.length]).tmod 4 from by unfold sV;rw [if_neg cl];simp [Xd,ai]];exact S
   . have dO :i=u.nodes:=(by omega);simp only [BZ,H,r7,r17,r18,aF,hlt,S.ld (b:=D) (o:=0) m1 rfl,seval];generalize hL:(XL i).map (sV O)=Ls at S;have lL:Ls.length=u.nodes:=(by rw [<-hL];simp [dO]);have bL:=lmax_bd (K:=((0+Ls.length:Nat):Int)) (by omega) (norm_bd [] Ls);have nl:=Ca [] Ls;have bY: ¬yE (norm [] Ls):=by
      rintro(h|h|h)
      . rw [h]at nl;simp at nl;omega
      . exact h (norm_idem [] Ls)
      . omega
     have sl:az h 1 (encI .i64) vQ Ls:=(S.gown _ m0).1.sl rfl (fun _=>rfl) (by decide);refine step_ret (DY S.ok sl (by omega)) ?_;rintro v1 hP ⟨g1,s1,q1⟩;replace S:=S.call g1;simp only [BZ,seval];have k7:=S.key_lt (b:=F) (by simp [keys]);refine step_ret (Ej S.ok s1 (by omega) (by omega)) ?_;rintro v2 hR ⟨g2,d0⟩;obtain⟨_,bf⟩:=d0.resolve_left (fun h=>bY h.1);replace S:=S.call g2;obtain⟨cb,d3⟩: ∃b,v2=ptrTo b:=(by obtain⟨b,_,e,_⟩:=bf;exact⟨b,e⟩);subst d3;have d5:=norm_bd [] Ls;have lm:(norm [] Ls).length=u.nodes:=(by omega);have mz: ∀x∈norm [] Ls,0<=x/\x<256:=fun x hx=>(by have:=d5 x hx;simp only [List.length_nil]at this;omega);generalize norm [] Ls=m at bf bL bY lm mz;have d7: ∃c:Nat->Nat,∀v,v<u.nodes->m.getD v 0=(c v:Int):=⟨fun v=>(m.getD v 0).toNat,fun v hv=>by
      have cp:v<m.length:=(by omega);have:=(mz _ (XB cp)).1;have e:m.getD v 0=m[v]:=(by rw [Xd,XH cp,Xj]);show m.getD v 0=((m.getD v 0).toNat:Int);rw [e];omega⟩
     obtain⟨cf,cr⟩:=d7;obtain⟨Mc,b0⟩: ∃M:Nat,gP m+1=(M:Int):=⟨(gP m+1).toNat,by omega⟩;replace S:St (· ∈[F,D,A]) hA hR [(F,.row [ptrTo P,pt,.pointer none,.pointer none] 1),(D,.row [.int .i64 u.nodes,vx,vy,va] 1),(A,.row [vB,vO,vM,.int .u8 (a:Nat),vN,q5,q6,q7] 1)] []:=S.sub (List.Sublist.refl _) (XP _);have S8:=S;have kz:F<hR.n:=(S8.own _ m0).2.lt S8.ok;replace S:=S.base;simp only [LC,keys,Xm,Xr,Xe]at S;have b2: ∀{N:Hp},Mo (· ∈[F,D,A]) hR N->Mo (· ∈[F,D,A]) hA N:=fun f=>S8.fr.trans f (fun c L=>.inl L);have bh: ∀{N:Hp},Mo (· ∈[F,D,A]) hR N->j7 N _ (ptrTo cb) m:=fun f=>bf.mo f (fun c L=>by have:=kb c L;omega);simp only [BZ,seval];refine aC (aE S (i:=0) rfl Tryz.t33.2.2.1 bD (Xg (lbt rfl)) ono) ?_;clear S;rintro h ⟨S,_⟩;simp only [LC,ae,lay,XI,XJ,seval]at S;simp only [BZ,J,r7,S.ld (b:=F) (o:=2) m0 rfl,seval];have kh:=S.fr.n;refine step_ret (ofB_ok S.ok af (bi (hq (b2 S.fr))) ⟨bh S.fr,lm,cr⟩ b0 (by omega)) ?_;rintro _ h ⟨g6,fp,fb,Bt,rfl,nf,ev,cs,BN,oB⟩;replace S:=S.call g6;have tz:Tz u.arcs.length ((u.arcs.length+7)/8) Bt:=fun r i h1 N=>by
      cases hb:gu Bt ((u.arcs.length+7)/8) r i with
      |false=>rfl| true=>
        rcases(oB r i N).1 hb with⟨_,h⟩|⟨_,h⟩
        . have:=zD h;omega
        . simp at h
     simp only [BZ,seval];refine aC (aE S (i:=0) rfl Tryz.t34.2.2.1 bD (Xg (lbt rfl)) ono) ?_;clear S;rintro h ⟨S,Z⟩;simp only [LC,ae,lay,XI,XJ,seval]at S;have bo:eu h fp fb Mc u.arcs.length ((u.arcs.length+7)/8) Bt:=⟨Z.has (o:=.row _ 1) BN.r (fun e=>by have e:fp=F:=e;omega),Z.has (o:=.row _ 1) BN.b (fun e=>by have e:fb=F:=e;omega),BN.lt⟩;have ea:=oB;clear BN Z oB;have aL: ∀{N:Hp} {B:Nat->Nat},Mo (· ∈[F,D,A]) hR N->eu N fp fb Mc u.arcs.length ((u.arcs.length+7)/8) B->Tz u.arcs.length ((u.arcs.length+7)/8) B->(a/8%2=0->B=Bt)->TabY N F (a/4%2=0) pt u T/\CelY N (a/8%2=0) (ptrTo cb) (ptrTo fp) u (some (m,byB (Mc*((u.arcs.length+7)/8)) B)):=fun f b z hb=>⟨tY.mo (b2 f) kb,⟨_,fp,fb,Mc,_,_,bh f,lm,rfl,b0,b,rfl,mz,bY,rfl,z⟩,_,cf,cb,fp,fb,Mc,_,rfl,rfl,⟨bh f,lm,cr⟩,b0,by omega,b,fun h=>by rw [hb h];exact ea⟩;by_cases h8:a/8%2=1
     . have e8:decide (a/8%2=1)=true:=decide_eq_true h8;simp only [BZ];refine rx (fun s h'=> ∃B,St (· ∈[F,D,A]) hR h' [(F,.row [ptrTo P,pt,ptrTo cb,ptrTo fp] 1),(D,.row [.int .i64 u.nodes,vx,vy,va] 1),(A,.row [vB,vO,vM,.int .u8 (a:Nat),vN,q5,q6,q7] 1)] []/\eu h' fp fb Mc u.arcs.length ((u.arcs.length+7)/8) B/\Tz u.arcs.length ((u.arcs.length+7)/8) B/\s 1=ptrTo A/\s 4=ptrTo D/\s 5=ptrTo P/\s 7=ptrTo F)
        (fun(i:Nat) s h'=>i<=W.length/\i<=9/\ ∃B,St (· ∈[F,D,A]) hR h' [(F,.row [ptrTo P,pt,ptrTo cb,ptrTo fp] 1),(D,.row [.int .i64 u.nodes,vx,vy,va] 1),(A,.row [vB,vO,vM,.int .u8 (a:Nat),vN,q5,q6,q7] 1)] []/\eu h' fp fb Mc u.arcs.length ((u.arcs.length+7)/8) B/\Tz u.arcs.length ((u.arcs.length+7)/8) B/\s 1=ptrTo A/\s 4=ptrTo D/\s 5=ptrTo P/\s 7=ptrTo F/\s 20=.int .i64 i) (fun i=>W.length-i) ?_ ?_ 0 ⟨Xi _,Xi _,Bt,S,bo,tz,by simp [aB,E,ah,H,J,r7]⟩
       . clear S bo tz ih E H J r7 r17 r18 w;intro i ih s N ⟨V,hi9,B,S,bm,tz,E,H,J,r7,al⟩;have w:an .i64 ((i:Int)+1)=((i+1:Nat):Int):=(by rw [wrap64]<;>omega);by_cases hlt:i<W.length
         . by_cases h9:i<9
           . have c9:(i:Int)<9:=(by omega);have a5:=(hN.sl.gr ay).mo (hq (b2 S.fr)) (fun c L=>nb c (br c L));obtain⟨cn,on,bb,ak⟩:=a5.ix (kd:=.i64) (bO .i64) hlt;generalize W[i]=z at ak;have w5:an .i64 ((u64 z%4:Nat):Int)=((u64 z%4:Nat):Int):=(by rw [wrap64]<;>omega);have m5:((u64 z:Nat):Int).tmod 4=((u64 z%4:Nat):Int):=(by rw [Xb (by omega)];exact(Xu _ _).symm);have q5:an .u64 (((u64 z:Nat):Int).tdiv 4)=((u64 z/4:Nat):Int):=(by have:=u64_lt z;rw [XX (by omega),show((u64 z:Int)/4)=((u64 z/4:Nat):Int) by omega,xw rfl];simp only [pw];omega);have eb:((u64 z/4:Nat):Int).tmod 40=((u64 z/4%40:Nat):Int):=(by rw [Xb (by omega)];exact(Xu _ _).symm);have ec:an .i64 ((u64 z/4%40:Nat):Int)=((u64 z/4%40:Nat):Int):=(by rw [wrap64]<;>omega);simp only [BZ,E,al,hN.sl.lenq,aF,hlt,c9,a8,d8,e8,S.ld (b:=A) (o:=4) m2 rfl,S.ld (b:=A) (o:=3) m2 rfl,seval];refine ao (av rfl) (q:=0) (ps:=[]) (by kernel_rfl) ?_;simp only [BZ,jz,cP,ju,cls,E,r7,al,bb,ak,encI,wrap_u64,jL (n:=4) (by decide),mL (n:=4) (by decide),jL (n:=40) (by decide),jL (n:=2) (by decide),w5,m5,q5,eb,ec,S.ld (b:=A) (o:=4) m2 rfl,S.ld (b:=F) (o:=3) m0 rfl,seval];refine bU (bSetG_ok S.ok bm cs (by omega) (by have:=af.many;omega) rfl _) ?_;rintro _ h3 ⟨Z,B',ed,ee⟩;replace S:=S.step Z (fun b e=>.inr (by have e:b=fb:=e;omega)) (fun b hb e=>by
              have e:b=fb:=e;simp only [keys,Xm,Xr,Xe,Xa]at hb;have:=kb b hb;omega)
             simp only [BZ,al,w,seval];exact ih (i+1) _ _ (by omega) ⟨by omega,by omega,B',S,ed,ee tz,by simp [aB,E,ah,H,J,r7]⟩
           . have c9: ¬(i:Int)<9:=(by omega);simp only [BZ,E,al,hN.sl.lenq,aF,hlt,c9,S.ld (b:=A) (o:=4) m2 rfl,seval];exact dH ⟨B,S,bm,tz,by simp [aB,E,ah,H,J,r7]⟩
         . simp only [BZ,E,al,hN.sl.lenq,aF,hlt,S.ld (b:=A) (o:=4) m2 rfl,seval];exact dH ⟨B,S,bm,tz,by simp [aB,E,ah,H,J,r7]⟩
       . clear S bo tz E H J r7 r17 r18;rintro s N ⟨B,S,bm,tz,E,H,J,r7⟩;obtain⟨f1,f2⟩:=aL S.fr bm tz (fun h=>absurd h (by omega));simp only [BZ];exact dH ⟨_,_,some _,S9.rebase (S8.rebase S),f1,f2,by rw [be];rfl,by simp [aB,E,ah,H,J,r7]⟩
     . have e8:decide (a/8%2=1)=false:=decide_eq_false h8;obtain⟨f1,f2⟩:=aL S.fr bo tz (fun _=>rfl);simp only [BZ];refine aW (fun(i:Nat) s h'=>i=0/\h'=_/\s 1=ptrTo A/\s 4=ptrTo D/\s 5=ptrTo P/\s 7=ptrTo F/\s 20=.int .i64 0) (fun _=>0) ?_ 0 _ _ ⟨rfl,rfl,by simp [aB,E,ah,H,J,r7]⟩;clear E H J r7;rintro i ih s _ ⟨rfl,rfl,E,H,J,r7,al⟩;by_cases hlt:0<W.length
       . have cN:(0<(W.length:Int))=True:=eq_true (by omega);simp only [BZ,E,al,hN.sl.lenq,cN,a8,d8,e8,S.ld (b:=A) (o:=4) m2 rfl,S.ld (b:=A) (o:=3) m2 rfl,seval];exact dH ⟨_,_,some _,S9.rebase (S8.rebase S),f1,f2,by rw [be];rfl,by simp [aB,E,ah,H,J,r7]⟩
       . have cN:(0<(W.length:Int))=False:=eq_false (by omega);simp only [BZ,E,al,hN.sl.lenq,cN,S.ld (b:=A) (o:=4) m2 rfl,seval];exact dH ⟨_,_,some _,S9.rebase (S8.rebase S),f1,f2,by rw [be];rfl,by simp [aB,E,ah,H,J,r7]⟩
 . intro be;simp only [BZ];exact dH ⟨_,_,none,S,tY,⟨rfl,rfl⟩,by rw [be];rfl,by simp [aB,E,ah,H,J,r7]⟩
 clear S tY E H J r7;intro s hE ⟨pc,pf,C,S,tY,cX,hCs,E,H,J,r7⟩;have hn:=bi S.fr;have gZ:Gr h0 hE:=(ay.fr.trans S.fr (fun c L=>.inr (c2 c L)):Mo NoM h0 hE).gr;simp only [BZ,ab,r7,seval];refine⟨gZ,F,⟨u,T,C⟩,rfl,⟨af,_,_,_,_,_,S.row m0,hn,?_,cX⟩,hTs,hCs⟩;cases T with
 |none=>exact tY|some T=>obtain⟨⟨m,_,x⟩,y⟩:=tY;exact⟨⟨m,by omega,x⟩,y⟩
theorem rC(a:OZ h0){c:Int}:aO zM 60 [.bool true,.int .i64 c] h0 (.tuple #[]):=by have S:=Si a;refine aa (n:=9) (rs:=[]) rfl Tryz.e60 rfl rfl rfl (lbt rfl) ?_;simp only [BZ,ab,seval];exact S.gr
theorem BO{hq:Hp}{L:List (Nat×Ob)}(S:St M h0 hq L G){g:FuncId}:
 Ret zM 150 [.func (.func g) #[] #[]] hq fun r h'=> ∃a,r=.func (.func 218) #[] #[ptrTo a]/\St M h0 h' ((a,.row [.func (.func g) #[] #[]] 1)::L) G:=by
 have c:=S.ok;refine aa (n:=4) (rs:=[.tmp 2]) rfl Tryz.e150 rfl rfl rfl (lbt rfl) ?_;simp only [BZ,seval];refine ac (aV (by intro x e;cases e)) S ?_;clear S;intro h a S b;simp only [ae]at S;simp only [BZ,ab,seval];exact⟨_,rfl,S⟩
def wayV(t c:Bool)(f:Value):List Value:=[.bool t,.bool c,f]
def tw:Nat->Bool
 |2=>true|3=>true|5=>true|_=>false
def cw:Nat->Bool
 |4=>true|5=>true|_=>false
def fw(b1 b2:Nat):Nat->Value
 |0=>.func (.func 218) #[] #[ptrTo b1]|1=>.func (.func 218) #[] #[ptrTo b2]|2=>.func (.func 151) #[] #[]|3=>.func (.func 152) #[] #[]|_=>.func (.func 149) #[] #[]
theorem fw_fl{b1:Nat}:Fl (fw b1 b2 k):=by unfold fw;split<;>exact dY
def cU(b1 b2:Nat)(k:Nat):List Value:=wayV (tw k) (cw k) (fw b1 b2 k)
theorem ways_at{b1:Nat}(a:k<6):((cU b1 b2 0++(cU b1 b2 1++(cU b1 b2 2++(cU b1 b2 3++(cU b1 b2 4++cU b1 b2 5))))).drop (k*3)).take 3=cU b1 b2 k:=by
 have:k=0\/k=1\/k=2\/k=3\/k=4\/k=5:=by omega
 rcases this with rfl|rfl|rfl|rfl|rfl|rfl<;>rfl
theorem build_all{a0 a1 a2 b0 b1 b2 c0 c1 c2 a b c d e f g h i:Value}:jQ zM 127 [(0,.agg ⟨[a0,a1,a2]⟩),(1,.agg ⟨[b0,b1,b2]⟩),(2,.agg ⟨[c0,c1,c2]⟩),(3,.agg ⟨[a,b,c]⟩),(4,.agg ⟨[d,e,f]⟩),(5,.agg ⟨[g,h,i]⟩)]=some (.agg ⟨[a0,a1,a2,b0,b1,b2,c0,c1,c2,a,b,c,d,e,f,g,h,i]⟩):=by unfold jQ;simp only [Tryz.t127.2.2.2.1,Tryz.t127.1,Tryz.t126.2.1];rfl
theorem all_ok(b:OZ h0):Ret zM 61 [] h0 fun r h'=>Gr h0 h'/\ ∃b1 b2,r=.agg ⟨cU b1 b2 0++(cU b1 b2 1++(cU b1 b2 2++(cU b1 b2 3++(cU b1 b2 4++cU b1 b2 5))))⟩/\h'.load b1 0 1=some [.func (.func 45) #[] #[]]/\h'.load b2 0 1=some [.func (.func 50) #[] #[]]/\h0.n<=b1/\h0.n<=b2:=by
 have S:=Si b;refine aa (n:=13) (rs:=[.cell 0 127]) rfl Tryz.e61 rfl rfl rfl (lbt rfl) ?_;simp only [BZ];refine ac aA S ?_;clear S;intro h d S a;simp only [BZ];refine step_ret (BO S) ?_;rintro _ h ⟨b1,rfl,S⟩;simp only [BZ,seval];refine step_ret (BO S) ?_;rintro _ h ⟨b2,rfl,S⟩;simp only [BZ,build_all,seval];refine aC (S.store (i:=2) rfl ?_ ?_ rfl rfl ?_ ono) ?_
 . exact(by exact Tryz.t127.2.2.1)
 . exact(by intro x e;cases e)
 . exact lbt rfl
 clear S;rintro h ⟨S,c⟩;clear c;simp only [LC,ae,lay,XI,XJ,seval]at S;simp only [BZ,ab];refine(bw (by decide) (by simp only [aD,ah,seval];exact bj Tryz.t127.2.1 Tryz.t127.2.2.1 (S.lds (o:=0) (n:=18) m2 (lbt rfl)))).2 ?_;exact bS.2 ⟨S.gr,b1,b2,rfl,S.ld m1 rfl,S.ld m0 rfl,(S.own _ m1).1.resolve_right (fun h=>h),(S.own _ m0).1.resolve_right (fun h=>h)⟩
theorem St.ne01{L:List (Nat×Ob)}(S:St M h0 h L G){i j b:Nat}{o o':Ob}(d:L[i]? =some (b,o))(e:L[j]? =some (c,o'))(a:i≠j):b≠c:=by rintro rfl;have f:=nX (G:=G) d;have g:=nX (G:=G) e;exact a (qk S.apart f g)
structure Ev2 where
 kind:Nat
 side:Bool
 id:Nat
 lab:Nat
structure Sd where
 K:Nat->Option Int
 L:Nat->Option Nat
 P:Nat->List Nat
 O:List Nat
structure Bi where
 sd:Bool->Sd
 ev:List Ev2
 dist:Nat
 meet:Nat
variable{σ:Bi}
def fsB(i:Bool):Arc->Nat:=if i then Arc.t else Arc.s
def ftB(i:Bool):Arc->Nat:=if i then Arc.s else Arc.t
def qB(pi:Nat->Int)(i:Bool)(v:Nat):Int:=if i then-pi v else pi v
def OpB(pi:Nat->Int)(v:Nat):Prop:= -(FAR:Int)<pi v/\pi v<(FAR:Int)
instance (pi:Nat->Int)(v:Nat):Decidable (OpB pi v):=by unfold OpB;infer_instance
def dG(f:Bool->Sd)(i:Bool)(x:Sd):Bool->Sd:=fun j=>if j=i then x else f j
def leO(o:Option Nat)(lab:Nat):Bool:=match o with
 |some w=>decide (w<=lab)|none=>false
def rP(o:Option Nat)(σ:Bi)(v lab:Nat):Bi:=match o with
 |some m=>if lab+m<σ.dist then⟨σ.sd,σ.ev,lab+m,v⟩else σ
 |none=>σ
def eR(pi:Nat->Int)(x:Sd)(i:Bool)(v lab:Nat)(p:List Nat):Sd:=⟨dp x.K v (some (2*lab+qB pi i v)),fun u=>if u=v then some lab else x.L u,mS x.P v p,x.O⟩
def dk(pi:Nat->Int)(i:Bool)(σ:Bi)(v lab:Nat)(p:List Nat):Bi:=
 if v∈(σ.sd i).O\/ ¬OpB pi v\/leO ((σ.sd i).L v) lab=true then σ else rP ((σ.sd (!i)).L v) ⟨dG σ.sd i (eR pi (σ.sd i) i v lab p),σ.ev,σ.dist,σ.meet⟩ v lab
def labB(σ:Bi)(i:Bool)(v:Nat):Nat:=((σ.sd i).L v).getD 0
def evB(σ:Bi)(e:Ev2):Bi:=⟨σ.sd,σ.ev++[e],σ.dist,σ.meet⟩
def cL(σ:Bi)(i:Bool)(v:Nat):Bi:=⟨dG σ.sd i ⟨dp (σ.sd i).K v none,(σ.sd i).L,(σ.sd i).P,(σ.sd i).O++[v]⟩,σ.ev++[⟨0,i,v,labB σ i v⟩],σ.dist,σ.meet⟩
def gf(A:List Arc)(al:Nat->Bool)(pi:Nat->Int)(i:Bool)(v:Nat)(σ:Bi)(a:Nat):Bi:=
 if al a=true then dk pi i (evB σ ⟨1,i,a,0⟩) (ftB i (A.getD a default)) (labB σ i v+(A.getD a default).w) (a::(σ.sd i).P v)else σ
def kE(A:List Arc)(al:Nat->Bool)(pi:Nat->Int)(i:Bool)(v:Nat)(σ:Bi):Bi:=(outs A (fsB i) A.length v).foldl (gf A al pi i v) σ
def iJ:Sd:=⟨fun _=>none,fun _=>none,fun _=>[],[]⟩
def mZ(pi:Nat->Int)(s t:Nat):Bi:=dk pi true (dk pi false ⟨fun _=>iJ,[],FAR,0⟩ s 0 []) t 0 []
def StopB(σ:Bi):Prop:=(∃i,∀v,(σ.sd i).K v=none)\/ ∃v k u l,nj (σ.sd false).K v k/\nj (σ.sd true).K u l/\2*(σ.dist:Int)<=k+l
def TurnB(σ:Bi)(i:Bool):Prop:= ∃v k u l,nj (σ.sd false).K v k/\nj (σ.sd true).K u l/\k+l<2*(σ.dist:Int)/\i=decide (l<k)
inductive pK(A:List Arc)(al:Nat->Bool)(pi:Nat->Int):Bi->Bi->Prop where
 |stop {σ:Bi}:StopB σ->pK A al pi σ σ
 |step {σ τ:Bi} {i:Bool} {v:Nat} {k:Int}:TurnB σ i->nj (σ.sd i).K v k->pK A al pi (kE A al pi i v (cL σ i v)) τ->pK A al pi σ τ
theorem eS{f:Bool->Sd}{x:Sd}:dG f i x i=x:=if_pos rfl
theorem nK{f:Bool->Sd}{x:Sd}:dG f i x (!i)=f (!i):=if_neg (by grind)
theorem zg{f:Bool->Sd}{x:Sd}(h:j≠i):dG f i x j=f j:=if_neg h
theorem rB{o:Option Nat}:(rP o σ v lab).sd=σ.sd/\(rP o σ v lab).ev=σ.ev:=by unfold rP;grind
section
variable{A:List Arc}{N:Nat}{al:Nat->Bool}{pi:Nat->Int}{σ:Bi}{rt:Bool->Nat}
structure SvB(A:List Arc)(N r:Nat)(al:Nat->Bool)(pi:Nat->Int)(i:Bool)(x:Sd):Prop where
 nd:x.O.Nodup
 lt: ∀v∈x.O,v<N/\x.L v≠none
 op: ∀v k,x.K v=some k->v∉x.O/\ ∃l,x.L v=some l/\k=2*(l:Int)+qB pi i v
 lab: ∀v l,x.L v=some l->v<N/\OpB pi v/\l<=x.O.length*cH/\(x.P v).length<=x.O.length/\(v∈x.O\/x.K v≠none)
 path: ∀v l,x.L v=some l->(v=r/\x.P v=[]/\l=0)\/ ∃a m,a<A.length/\al a=true/\ftB i (A.getD a default)=v/\fsB i (A.getD a default)∈x.O/\x.P v=a::x.P (fsB i (A.getD a default))/\x.L (fsB i (A.getD a default))=some m/\l=m+(A.getD a default).w
structure BiI(A:List Arc)(N:Nat)(rt:Bool->Nat)(al:Nat->Bool)(pi:Nat->Int)(σ:Bi):Prop where
 sv: ∀i,SvB A N (rt i) al pi i (σ.sd i)
 dm:(σ.dist=FAR/\ ∀i v x,(σ.sd i).L v=some x->(σ.sd (!i)).L v=none)\/(∀i,∃x y,(σ.sd i).L σ.meet=some x/\(σ.sd (!i)).L σ.meet=some y/\σ.dist=x+y)
 le: ∀i v x y,(σ.sd i).L v=some x->(σ.sd (!i)).L v=some y->σ.dist<=x+y
theorem SvB.len{x:Sd}(h:SvB A N r al pi i x):x.O.length<=N:=re N x.O h.nd (fun v a=>(h.lt v a).1)
theorem tv(h:j≠i):j= !i:=by cases i<;>cases j<;>first|rfl|grind
theorem not_ne:(!i)≠i:=by grind
theorem SvB.put{x:Sd}(h:SvB A N r al pi b x)(y:v∉x.O)(j:OpB pi v)(E:v<N)(b1:lab<=x.O.length*cH)(b2:p.length<=x.O.length)
 (d:(v=r/\p=[]/\lab=0)\/ ∃a m,a<A.length/\al a=true/\ftB b (A.getD a default)=v/\fsB b (A.getD a default)∈x.O/\p=a::x.P (fsB b (A.getD a default))/\x.L (fsB b (A.getD a default))=some m/\lab=m+(A.getD a default).w):
 SvB A N r al pi b (eR pi x b v lab p):=by
 have F: ∀{u},u∈x.O->u≠v:=fun f e=>y (e▸f);have g: ∀{u},u≠v->(eR pi x b v lab p).L u=x.L u:=fun h=>if_neg h;have z: ∀{u},u≠v->(eR pi x b v lab p).K u=x.K u:=fun h=>if_neg h;have B: ∀{u},u≠v->(eR pi x b v lab p).P u=x.P u:=fun h=>if_neg h;have n:(eR pi x b v lab p).L v=some lab:=if_pos rfl;have C:(eR pi x b v lab p).K v=some (2*(lab:Int)+qB pi b v):=if_pos rfl;have D:(eR pi x b v lab p).P v=p:=if_pos rfl;refine⟨h.nd,fun u f=>⟨(h.lt u f).1,by rw [g (F f)];exact(h.lt u f).2⟩,fun u k i=>?_,fun u l c=>?_,fun u l c=>?_⟩
 . by_cases e:u=v
   . subst e;rw [C]at i;cases i;exact⟨y,lab,n,rfl⟩
   . rw [z e]at i;rw [g e];exact h.op u k i
 . by_cases e:u=v
   . subst e;rw [n]at c;cases c;exact⟨E,j,b1,by rw [D];exact b2,.inr (by rw [C];nofun)⟩
   . rw [g e]at c;rw [z e,B e];exact h.lab u l c
 . by_cases e:u=v
   . subst e;rw [n]at c;cases c;rw [D];rcases d with d|⟨a,m,o,q,s,t,G,H,w⟩
     . exact .inl d
     . exact .inr ⟨a,m,o,q,s,t,by grind,by grind,w⟩
   . rw [g e]at c;rw [B e];rcases h.path u l c with d|⟨a,m,o,q,s,t,G,H,w⟩
     . exact .inl d
     . exact .inr ⟨a,m,o,q,s,t,by grind,by grind,w⟩
theorem BiI.reach    (j:N<=12) (h:BiI A N rt al pi σ) (H:v<N) (b1:lab<=(σ.sd b).O.length*cH) (b2:p.length<=(σ.sd b).O.length)
 (I:(v=rt b/\p=[]/\lab=0)\/ ∃a m,a<A.length/\al a=true/\ftB b (A.getD a default)=v/\fsB b (A.getD a default)∈(σ.sd b).O/\p=a::(σ.sd b).P (fsB b (A.getD a default))/\(σ.sd b).L (fsB b (A.getD a default))=some m/\lab=m+(A.getD a default).w):
 BiI A N rt al pi (dk pi b σ v lab p):=by
 unfold dk
 split
 . exact h
 . rename_i C;simp only [not_or,Decidable.not_not]at C;obtain⟨J,B,hle⟩:=C;have k: ∀i,SvB A N (rt i) al pi i (dG σ.sd b (eR pi (σ.sd b) b v lab p) i):=fun i=>by
    by_cases e:i=b
    . subst e;rw [eS];exact(h.sv i).put J B H b1 b2 I
    . rw [zg e];exact h.sv i
   have s: ∀u,(dG σ.sd b (eR pi (σ.sd b) b v lab p) (!b)).L u=(σ.sd (!b)).L u:=fun u=>(by rw [nK]);have K:(dG σ.sd b (eR pi (σ.sd b) b v lab p) b).L v=some lab:=(by rw [eS];exact if_pos rfl);have t: ∀{u},u≠v->(dG σ.sd b (eR pi (σ.sd b) b v lab p) b).L u=(σ.sd b).L u:=fun {u} e=>by rw [eS];exact if_neg e
   -- the smaller facts, for side b and its opposite
   have L:=h.sv b;have M:=gQ;have U:=jP;have n: ∀{i u l},(σ.sd i).L u=some l->l<=12*cH:=fun {i u l} O=>(by have q:=((h.sv i).lab u l O).2.2.1;have o:=Xn cH (XA (h.sv i).len j);omega);have D:lab<=12*cH:=(by have o:=Xn cH (XA L.len j);omega);have c: ∀{P:Bool->Prop},P b->P (!b)-> ∀i,P i:=fun {P} V Q i=>by
    by_cases e:i=b
    . grind
    . rw [tv e];exact Q
   have E:(!(!b))=b:=(by cases b<;>rfl);cases R:(σ.sd (!b)).L v with
   | none =>
     unfold rP;simp only [];refine⟨k,?_,?_⟩
     . rcases h.dm with⟨F,S⟩|d
       . refine .inl ⟨F,c (P:=fun i=> ∀u x,(dG σ.sd b (eR pi (σ.sd b) b v lab p) i).L u=some x->(dG σ.sd b (eR pi (σ.sd b) b v lab p) (!i)).L u=none) (fun u x f=>?_) (fun u x f=>?_)⟩
         . grind
         grind
       . have T:σ.meet≠v:=fun e=>(by obtain⟨x,y,_,o,_⟩:=d b;grind);refine .inr (c (P:=fun i=> ∃x y,(dG σ.sd b (eR pi (σ.sd b) b v lab p) i).L σ.meet=some x/\(dG σ.sd b (eR pi (σ.sd b) b v lab p) (!i)).L σ.meet=some y/\σ.dist=x+y) ?_ ?_)
         . obtain⟨x,y,q,o,w⟩:=d b;grind
         . obtain⟨x,y,q,o,w⟩:=d (!b);grind
     . refine c (P:=fun i=> ∀u x y,(dG σ.sd b (eR pi (σ.sd b) b v lab p) i).L u=some x->(dG σ.sd b (eR pi (σ.sd b) b v lab p) (!i)).L u=some y->σ.dist<=x+y) (fun u x y f g=>?_) (fun u x y f g=>?_)
       . rw [s]at g;by_cases e:u=v
         . grind
         . rw [t e]at f;exact h.le b u x y f g
       . rw [s]at f;rw [E]at g;by_cases e:u=v
         . grind
         . rw [t e]at g;exact h.le (!b) u x y f (by grind)
   | some m =>
     have W:=n R;have X: ∀{i:Bool} {u x y:Nat},(dG σ.sd b (eR pi (σ.sd b) b v lab p) i).L u=some x->(dG σ.sd b (eR pi (σ.sd b) b v lab p) (!i)).L u=some y->(u=v/\x+y=lab+m)\/(u≠v/\σ.dist<=x+y):=fun {i u x y} f g=>by
      by_cases e:u=v
      . subst e;refine .inl ⟨rfl,?_⟩;by_cases z:i=b
        . grind
        . rw [tv z]at f g;grind
      . refine .inr ⟨e,?_⟩;by_cases z:i=b
        . subst z;rw [t e]at f;rw [s]at g;exact h.le i u x y f g
        . rw [tv z]at f g;rw [s]at f;rw [E,t e]at g;exact h.le (!b) u x y f (by grind)
     unfold rP;simp only []
     split
     . rename_i hlt;refine⟨k,.inr (c (P:=fun i=> ∃x y,(dG σ.sd b (eR pi (σ.sd b) b v lab p) i).L v=some x/\(dG σ.sd b (eR pi (σ.sd b) b v lab p) (!i)).L v=some y/\lab+m=x+y) ⟨lab,m,K,by grind,rfl⟩ ⟨m,lab,by grind,by grind,Nat.add_comm _ _⟩),fun i u x y f g=>?_⟩;grind
     . rename_i r;have r: ¬lab+m<σ.dist:=r;have G: ∀x,(σ.sd b).L v=some x->lab<x:=fun x f=>(by simp_all[hle,leO,decide_eq_true_eq]);refine⟨k,?_,fun i u x y f g=>?_⟩
       . rcases h.dm with⟨F,S⟩|d
         . omega
         . have T:σ.meet≠v:=fun e=>(by obtain⟨x,y,q,o,w⟩:=d b;grind);refine .inr (c (P:=fun i=> ∃x y,(dG σ.sd b (eR pi (σ.sd b) b v lab p) i).L σ.meet=some x/\(dG σ.sd b (eR pi (σ.sd b) b v lab p) (!i)).L σ.meet=some y/\σ.dist=x+y) ?_ ?_)
           . obtain⟨x,y,q,o,w⟩:=d b;grind
           . obtain⟨x,y,q,o,w⟩:=d (!b);grind
       grind
end
theorem uu(s:OZ h0){F:List Nat}{p:Value}{K:Nat->Option Int}(H:cE h0 F p N K):
 ∃(k:Int) (b:Bool),aO zM 210 [p] h0 (.tuple #[.int .i64 k,.bool b])/\((b=false/\ ∀v,K v=none)\/(b=true/\ ∃v,nj K v k)):=by
 obtain⟨m,q,t⟩:=tX s H;obtain⟨P,Q,l,rfl,A,r,hlt,B⟩:=H.ex;by_cases d:m=0
 . refine⟨0,false,?_,.inl ⟨rfl,t.1 d⟩⟩;subst d;have S:=Si s;refine aa (n:=15) (rs:=[.tmp 2,.tmp 3]) rfl Tryz.e210 rfl rfl rfl (lbt rfl) ?_;simp only [BZ,seval];refine ag (q) ?_;intro h g;replace S:=S.call g;clear g;simp only [BZ,ab,Xc,seval];exact S.gr
 . have w: ¬((m:Int)=0):=(by omega);rcases B with⟨rfl,_⟩|⟨D,E,rfl,R⟩
   . exact absurd (t.2 r.nil) d
   . have a:0<l.length:=by
      cases l with
      |nil=>exact absurd (t.2 r.nil) d|cons x l=>simp
     refine⟨(l.getD 0 default).key,true,?_,.inr ⟨rfl,(l.getD 0 default).id,r.at a,fun u T G=>?_⟩⟩
     . have S:=Si s;refine aa (n:=15) (rs:=[.tmp 2,.tmp 3]) rfl Tryz.e210 rfl rfl rfl (lbt rfl) ?_;simp only [BZ,seval];refine ag (q) ?_;intro h g;replace S:=S.call g;replace R:=R.gr g;clear g;obtain⟨U,V,c,f,y,I,C,W,X⟩:=R.ex;have J:=R.row.load1 (o:=0) rfl;have L:=C.ld2 y a;have z:h.load D (0*2+1) 1=some [.int .i64 (l.getD 0 default).key]:=qU L (i:=1) (m:=1) (by omega);have M:iN (.int .i64 0) l.length=some 0:=iD (i:=0) a;simp only [BZ,ab,w,J,M,z,seval];exact S.gr
     . obtain⟨j,O,e⟩:=r.idx G;have:=BK A j O;rw [e]at this;unfold Ab.hle at this;simp only []at this;omega
theorem bpi_ok(k:OZ h0)(f:h0.load br 4 1=some [vPi])(d:az h0 1 (encI .i64) vPi pis)(a:v<pis.length\/pis=[]/\vPi=.slice none 0 0):
 aO zM 207 [ptrTo br,.int .i64 (v:Nat)] h0 (.tuple #[.int .i64 (pis.getD v 0),.bool (decide (-(FAR:Int)<pis.getD v 0/\pis.getD v 0<FAR))]):=by
 have S:=Si k;have l:=gQ;rcases a with a|a;rotate_left
 . obtain⟨rfl,_⟩:=a;refine aa (n:=29) (rs:=[.tmp 4,.tmp 5]) rfl Tryz.e207 rfl rfl rfl (lbt rfl) ?_;simp only [BZ,ab,Xc,f,d.lenq,seval];exact⟨by rw [decide_eq_true (by simp only [List.getD_nil];omega)];rfl,S.gr⟩
 have g: ¬((pis.length:Int)=0):=by omega
 obtain⟨c,o,h,b⟩:=d.ix (kd:=.i64) (bO .i64) a;have e:pis.getD v 0=pis[v]:=by rw [Xd,XH a,Xj]
 rw [e];generalize pis[v]=p at b;replace b:h0.load c o 1=some [.int .i64 p]:=b;refine aa (n:=29) (rs:=[.tmp 4,.tmp 5]) rfl Tryz.e207 rfl rfl rfl (lbt rfl) ?_;by_cases i:(-72057594037927936:Int)<p
 . by_cases j:p<72057594037927936
   . simp only [BZ,ab,f,d.lenq,g,h,b,i,j,seval];refine⟨?_,S.gr⟩;rw [decide_eq_true (by omega)]
   . simp only [BZ,ab,f,d.lenq,g,h,b,i,j,seval];refine⟨?_,S.gr⟩;rw [decide_eq_false (by omega)]
 . simp only [BZ,ab,f,d.lenq,g,h,b,i,seval];refine⟨?_,S.gr⟩;rw [decide_eq_false (by omega)]
theorem pair_nl{x:Option Tch}:jt none x=true:=by cases x<;>rfl
theorem pair_nr{x:Option Tch}:jt x none=true:=by
 cases x with
 |none=>rfl|some x=>cases x<;>rfl
theorem rU(b:OZ h0){a:Gra}{p:Value}(d:aS h0 c p a)(e:h0.load b2 0 1=some [p])(f:v<a.nodes):aO zM 204 [.int .i64 (v:Nat),ptrTo b2] h0 (.bool true):=by
 have S:=Si b;have g:(0:Int)<=(v:Int):=by omega
 refine aa (n:=12) (rs:=[.tmp 3]) rfl Tryz.e204 rfl rfl rfl (lbt rfl) ?_;simp only [BZ,e,g,seval];refine ag (bM S.ok d) ?_;intro i h;replace S:=S.call h;simp only [BZ,ab,aF,f,seval];exact S.gr
theorem rM(d:OZ h0){b:Nat}(h:a=0\/a=b):aO zM 205 [.int .i64 (a:Nat),.int .i64 (b:Nat)] h0 (.bool true):=by
 have S:=Si d;refine aa (n:=12) (rs:=[.tmp 4]) rfl Tryz.e205 rfl rfl rfl (lbt rfl) ?_;by_cases c:a=0
 . subst c;simp only [BZ,ab,Xc,seval];exact S.gr
 . have e:a=b:=h.resolve_left c;subst e;have f: ¬(a:Int)=0:=(by omega);simp only [BZ,ab,f,seval];exact S.gr
theorem rightN_ok(J:OZ h0){K to:Nat}(m:aS h0 K (ptrTo r) f)(L:s<f.nodes)(M:to<f.nodes):
 aO zM 127 [ptrTo r,.agg ⟨[.int .i64 (s:Nat),.int .i64 (to:Nat),.slice none 0 0,.slice none 0 0]⟩] h0 (.bool true):=by
 have S:=Si J;refine aa (n:=36) (rs:=[.tmp 4]) rfl Tryz.e127 rfl rfl rfl (lbt rfl) ?_;simp only [BZ,seval];refine ac (bJ (by exact bD)) S ?_;clear S;intro h c S t;simp only [BZ,if_false,seval];refine ac (aV (by intro x e;cases e)) S ?_;clear S;intro h d S u;simp only [ae]at S;simp only [BZ,seval];have t2:=(S.row (b:=c) m1).lt S.ok;have t3:=(S.row (b:=d) m0).lt S.ok;have N:=S.gr.n;refine ao (av rfl) (q:=0) (ps:=[(23,25),(22,25),(14,16),(13,16)]) (by kernel_rfl) ?_;simp only [BZ,cls,S.ld (b:=d) (o:=0) m0 rfl,seval];refine bz (rU S.ok (m.gr S.gr) (S.ld (b:=c) (o:=0) m1 rfl) L) ?_;intro O g;have v:=am g t2;have w:=am g t3;have y:=g.n;replace S:=S.call g;clear g;simp only [BZ,cls,S.ld (b:=d) (o:=1) m0 rfl,seval];refine bz (rU S.ok (m.gr S.gr) (S.ld (b:=c) (o:=0) m1 rfl) M) ?_;intro z i;have e4:=am i (XF t2 y);have e5:=am i (XF t3 y);have P:=i.n;replace S:=S.call i;clear i;simp only [BZ,cls,Xc,S.ld (b:=d) (o:=2) m0 rfl,S.ld (b:=c) (o:=0) m1 rfl,seval];refine bz (kJ S.ok (m.gr S.gr)) ?_;intro A j;have B:=am j (show c<z.n by omega);have C:=am j (show d<z.n by omega);have Q:=j.n;replace S:=S.call j;clear j;simp only [BZ,cls,seval];refine bz (rM (a:=0) (b:=f.arcs.length) S.ok (.inl rfl)) ?_;intro D k;have e8:=am k (show c<A.n by omega);have e9:=am k (show d<A.n by omega);have R:=k.n;replace S:=S.call k;clear k;simp only [BZ,cls,Xc,S.ld (b:=d) (o:=3) m0 rfl,S.ld (b:=c) (o:=0) m1 rfl,seval];refine bz (bM S.ok (m.gr S.gr)) ?_;intro E l;have F:=am l (show c<D.n by omega);have G:=am l (show d<D.n by omega);have T:=l.n;replace S:=S.call l;clear l;simp only [BZ,cls,seval];refine bz (rM (a:=0) (b:=f.nodes) S.ok (.inl rfl)) ?_;intro U p;have H:=am p (show c<E.n by omega);have I:=am p (show d<E.n by omega);replace S:=S.call p;simp only [BZ,cls,ab,seval];refine⟨by simp only [aJ,aR,aH,aT,aI,ne_eq,not_false_eq_true,aY,bC,aQ,aN,bF,bW,aD,Xs,ah,tF,j9,kw,pair_nl,pair_nr,ar v,au v,ar w,au w,ar e4,au e4,ar e5,au e5,ar B,au B,ar C,au C,ar e8,au e8,ar e9,au e9,ar F,au F,ar G,au G,ar H,au H,ar I,au I,seval],?_⟩;exact S.gr
theorem bright_ok(w:OZ h0){i:Gra}{X z to:Nat}(t:aS h0 X (ptrTo z) i)(A:s<i.nodes)(B:to<i.nodes)(u:az h0 1 (encI .i64) vPi pis)(j:pis.length=i.nodes\/pis=[]/\vPi=.slice none 0 0):
 aO zM 127 [ptrTo z,.agg ⟨[.int .i64 (s:Nat),.int .i64 (to:Nat),.slice none 0 0,vPi]⟩] h0 (.bool true):=by
 rcases j with j|j;rotate_left
 . obtain⟨rfl,rfl⟩:=j;exact rightN_ok w t A B
 have S:=Si w;have Y:=u.fl;obtain⟨g,Z,si,ci,rfl⟩: ∃b o s c,vPi=.slice (some ⟨b,o,s⟩) pis.length c:=by
  rcases u with⟨_,rfl⟩|⟨b,o,s,c,e,_⟩
  . simp at j;omega
  . exact⟨b,o,s,c,e⟩
 have ti:g<h0.n:=u.blt w rfl;refine aa (n:=36) (rs:=[.tmp 4]) rfl Tryz.e127 rfl rfl rfl (lbt rfl) ?_;simp only [BZ,seval];refine ac (bJ (by exact bD)) S ?_;clear S;intro h d S C;simp only [BZ,if_false,seval];refine ac (aV (by intro x e;cases e)) S ?_;clear S;intro h f S D;simp only [ae]at S;simp only [BZ,seval];have t2:=(S.row (b:=d) m1).lt S.ok;have t3:=(S.row (b:=f) m0).lt S.ok;have k0:=S.gr.n;refine ao (av rfl) (q:=0) (ps:=[(23,25),(22,25),(14,16),(13,16)]) (by kernel_rfl) ?_;simp only [BZ,cls,S.ld (b:=f) (o:=0) m0 rfl,seval];refine bz (rU S.ok (t.gr S.gr) (S.ld (b:=d) (o:=0) m1 rfl) A) ?_;intro h1 k;have E:=am k t2;have F:=am k t3;have G:=am k (show g<_ by omega);have H:=k.n;replace S:=S.call k;clear k;simp only [BZ,cls,S.ld (b:=f) (o:=1) m0 rfl,seval];refine bz (rU S.ok (t.gr S.gr) (S.ld (b:=d) (o:=0) m1 rfl) B) ?_;intro I l;have e4:=am l (XF t2 H);have e5:=am l (XF t3 H);have J:=am l (show g<_ by omega);have k2:=l.n;replace S:=S.call l;clear l;simp only [BZ,cls,Xc,S.ld (b:=f) (o:=2) m0 rfl,S.ld (b:=d) (o:=0) m1 rfl,seval];refine bz (kJ S.ok (t.gr S.gr)) ?_;intro K m;have L:=am m (show d<I.n by omega);have M:=am m (show f<I.n by omega);have N:=am m (show g<_ by omega);have k3:=m.n;replace S:=S.call m;clear m;simp only [BZ,cls,seval];refine bz (rM (a:=0) (b:=i.arcs.length) S.ok (.inl rfl)) ?_;intro O p;have e8:=am p (show d<K.n by omega);have e9:=am p (show f<K.n by omega);have P:=am p (show g<_ by omega);have k4:=p.n;replace S:=S.call p;clear p;simp only [BZ,cls,(u.gr S.gr).lenq,S.ld (b:=f) (o:=3) m0 rfl,S.ld (b:=d) (o:=0) m1 rfl,seval];refine bz (bM S.ok (t.gr S.gr)) ?_;intro y r;have Q:=am r (show d<O.n by omega);have R:=am r (show f<O.n by omega);have T:=am r (show g<_ by omega);have k5:=r.n;replace S:=S.call r;clear r;simp only [BZ,cls,seval];refine bz (rM (a:=pis.length) (b:=i.nodes) S.ok (.inr j)) ?_;intro h6 v;have U:=am v (show d<y.n by omega);have V:=am v (show f<y.n by omega);have W:=am v (show g<y.n by omega);replace S:=S.call v;simp only [BZ,cls,ab,seval];refine⟨by simp only [aJ,aR,aH,aT,aI,ne_eq,not_false_eq_true,aY,bC,aQ,aN,bF,bW,aD,Xs,ah,tF,j9,kw,pair_nl,pair_nr,ar E,au E,ar F,au F,ar e4,au e4,ar e5,au e5,ar L,au L,ar M,au M,ar e8,au e8,ar e9,au e9,ar Q,au Q,ar R,au R,ar U,au U,ar V,au V,ar G,au G,ar J,au J,ar N,au N,ar P,au P,ar T,au T,ar W,au W,seval],?_⟩;exact S.gr
def jG(i:Bool):Nat:=if i then 1 else 0
def jr(e:Ev2):List Value:=[.int .i64 (e.kind:Nat),.int .i64 (jG e.side:Nat),.int .i64 (e.id:Nat),.int .i64 (e.lab:Nat)]
structure Sx where
 b:Nat
 p:Nat
 ml:Nat
 ma:Nat
 mc:Nat
 vA:Value
 vH:Value
 el:List (Value×Value×Nat)
 cl:Nat
 ea:List (Value×Value×Nat)
 ca:Nat
 ec:List (Value×Value×Nat)
 cc:Nat
def kD(i:Bool):Int:=if i then-1 else 1
def Sx.row(x:Sx)(i:Bool):List Value:=[ptrTo x.p,.int .i64 (jG i:Nat),.int .i64 (kD i),x.vA,x.vH,.map (some x.ml),.map (some x.ma),.map (some x.mc)]
def Sx.L(x:Sx)(i:Bool):List (Nat×Ob):=[(x.b,.row (x.row i) 1),(x.ml,.map x.el x.cl),(x.ma,.map x.ea x.ca),(x.mc,.map x.ec x.cc)]
structure Sx.Ok(x:Sx)(s:Sd):Prop where
 ml: ∃f,dL x.el x.cl f/\ ∀v:Nat,f v=(s.L v).map fun(l:Nat)=>Value.int .i64 l
 ma: ∃f,dL x.ea x.ca f/\ ∀v:Nat,(s.L v).isSome=true->f v=some (.int .i64 (byI (s.P v)))
 mc: ∃f,dL x.ec x.cc f/\ ∀v:Nat,f v=if v∈s.O then some (.int .i64 1)else none
def ib(pn:Value)(s t:Nat)(vPi:Value)(X:Bool->Sx)(vE:Value)(σ:Bi):List Value:=[pn,.int .i64 (s:Nat),.int .i64 (t:Nat),.slice none 0 0,vPi,ptrTo (X false).b,ptrTo (X true).b,.int .i64 (σ.dist:Nat),.slice none 0 0,vE,.int .i64 (σ.meet:Nat)]
def boL(i:Bool)(br:Nat)(pn:Value)(s t:Nat)(vPi:Value)(X:Bool->Sx)(vE:Value)(σ:Bi):List (Nat×Ob):=(br,.row (ib pn s t vPi X vE σ) 1)::((X i).L i++(X (!i)).L (!i))
def boG(vE:Value)(σ:Bi):List GL:=[(vE,4,σ.ev.flatMap jr)]
structure fg(h:Hp)(br:Nat)(pn:Value)(s t:Nat)(vPi:Value)(X:Bool->Sx)(F:Bool->List Nat)(vE:Value)(N:Nat)(σ:Bi):Prop where
 own: ∀q∈boL false br pn s t vPi X vE σ,Has h q.1 q.2
 ev:ia h (vE,4,σ.ev.flatMap jr)
 nd:(keys (boL false br pn s t vPi X vE σ) (boG vE σ)).Nodup
 heap: ∀i,cE h (F i) (ptrTo (X i).p) N (σ.sd i).K
 ok: ∀i,(X i).Ok (σ.sd i)
 apart: ∀i,∀c∈F i,c∉keys (boL false br pn s t vPi X vE σ) (boG vE σ)/\c∉F (!i)
def boB(br:Nat)(pn:Value)(s t:Nat)(vPi:Value)(X:Bool->Sx)(F:Bool->List Nat)(vE:Value)(σ:Bi):List Nat:=keys (boL false br pn s t vPi X vE σ) (boG vE σ)++(F false++F true)
section
variable{h h':Hp}{br:Nat}{pn:Value}{s t:Nat}{vPi:Value}{X:Bool->Sx}{F:Bool->List Nat}{vE:Value}{N:Nat}{σ:Bi}
theorem oV(i:Bool):List.Perm (boL i br pn s t vPi X vE σ) (boL false br pn s t vPi X vE σ):=by
 cases i with
 |false=>exact List.Perm.refl _|true=>exact List.Perm.cons _ List.perm_append_comm
theorem fg.apart'(a:fg h br pn s t vPi X F vE N σ)(i:Bool)(d:c∈F j):c∉keys (boL i br pn s t vPi X vE σ) (boG vE σ):=fun b=>by
 refine(a.apart j c d).1 ?_;unfold keys at b⊢;rcases List.mem_append.1 b with h|h
 . exact zO _ (((oV i).map _).mem_iff.1 h)
 . exact Xh _ h
theorem qW(a:c∈F i):c∈boB br pn s t vPi X F vE σ:=Xh _ (by cases i;exact zO _ a;exact Xh _ a)
theorem fg.mo{M:Nat->Prop}(a:fg h br pn s t vPi X F vE N σ)(g:Mo M h h')(d: ∀b∈boB br pn s t vPi X F vE σ,¬M b):fg h' br pn s t vPi X F vE N σ:=
 ⟨fun q e=>g.has (a.own q e) (d _ (zO _ (iP e))),
  a.ev.of_get fun b c=>g.get b (a.ev.lt g.ok0 c) (d b (zO _ (fk (p:=(vE,4,σ.ev.flatMap jr)) m0 c))),a.nd,
  fun i=>(a.heap i).mo g (fun b c=>d b (qW c)),a.ok,a.apart⟩
theorem fg.gr(a:fg h br pn s t vPi X F vE N σ)(g:Gr h h'):fg h' br pn s t vPi X F vE N σ:=a.mo (M:=NoM) g.fr (fun _ _ h=>h)
theorem fg.st(a:fg h br pn s t vPi X F vE N σ)(d:OZ h)(i:Bool):St (· ∈boB br pn s t vPi X F vE σ) h h (boL i br pn s t vPi X vE σ) (boG vE σ):=by
 have S:St (· ∈boB br pn s t vPi X F vE σ) h h (boL false br pn s t vPi X vE σ) (boG vE σ):=
  ⟨Mo.refl d,fun p c=>⟨.inr (zO _ (iP c)),a.own p c⟩,fun p c=>by
   simp only [boG,List.mem_singleton]at c;subst c;exact⟨a.ev,fun b e=>.inr (zO _ (fk (p:=(vE,4,σ.ev.flatMap jr)) m0 e))⟩,a.nd⟩
 exact S.permL (oV i)
theorem fg.of(i:Bool)(S:St M h0 h (boL i br pn s t vPi X vE σ) (boG vE σ))(e: ∀i,cE h (F i) (ptrTo (X i).p) N (σ.sd i).K)(f: ∀i,(X i).Ok (σ.sd i))(a: ∀j,∀c∈F j,c∉keys (boL i br pn s t vPi X vE σ) (boG vE σ)/\c∉F (!j)):fg h br pn s t vPi X F vE N σ:=by
 have T:=S.permL (oV (br:=br) (pn:=pn) (s:=s) (t:=t) (vPi:=vPi) (X:=X) (vE:=vE) (σ:=σ) i).symm;refine⟨fun q g=>(T.own q g).2,(T.gown _ m0).1,T.apart,e,f,fun j c b=>⟨fun d=>(a j c b).1 ?_,(a j c b).2⟩⟩;unfold keys at d⊢;rcases List.mem_append.1 d with h|h
 . exact zO _ (((oV i).map _).mem_iff.2 h)
 . exact Xh _ h
theorem fg.rows(a:fg h br pn s t vPi X F vE N σ):Row h br (ib pn s t vPi X vE σ) 1/\ ∀i,Row h (X i).b ((X i).row i) 1:=by
 refine⟨a.own (br,.row _ 1) (by simp [boL]),fun i=>?_⟩;cases i
 . exact a.own ((X false).b,.row _ 1) (by simp [boL,Sx.L])
 . exact a.own ((X true).b,.row _ 1) (by simp [boL,Sx.L])
end
theorem BR(x:OZ h0){X:Bool->Sx}{F:Bool->List Nat}(a:fg h0 br pn s t vPi X F vE N σ)
 (y: ∀i v k,(σ.sd i).K v=some k-> -1000000000000000000<=k/\k<=1000000000000000000) (J:σ.dist<=FAR):
 Ret zM 134 [ptrTo br] h0 fun r h'=>Gr h0 h'/\((StopB σ/\r=.pointer none)\/ ∃i,TurnB σ i/\r=ptrTo (X i).b):=by
 have S:=Si x;have K:=gQ;obtain⟨R,z⟩:=a.rows;obtain⟨b,L,B,C⟩:=uu x (a.heap false);have e:=R.load1 (o:=5) rfl;have f:=R.load1 (o:=6) rfl;have d:=R.load1 (o:=7) rfl;have D:=(z false).load1 (o:=0) rfl;have q:=(z true).load1 (o:=0) rfl;refine aa (n:=64) (rs:=[.tmp 2]) rfl Tryz.e134 rfl rfl rfl (lbt rfl) ?_;simp only [BZ,Xc,e,D,seval];refine ag B ?_;intro M g;replace S:=S.call g;obtain⟨c,O,E,G⟩:=uu S.ok ((a.heap true).gr g);replace e:=g.load e;replace f:=g.load f;replace d:=g.load d;replace q:=g.load q;simp only [BZ,Xc,f,q,seval];refine ag E ?_;intro P h;replace S:=S.call h;replace e:=h.load e;replace f:=h.load f;replace d:=h.load d;rcases C with⟨rfl,H⟩|⟨rfl,j,l⟩
 . simp only [BZ,ab,seval];exact⟨S.gr,.inl (.inl ⟨false,H⟩)⟩
 . rcases G with⟨rfl,I⟩|⟨rfl,m,t1⟩
   . simp only [BZ,ab,seval];exact⟨S.gr,.inl (.inl ⟨true,I⟩)⟩
   . have Q:=y false j b l.1;have T:=y true m c t1.1;have u:an .i64 (b+c)=b+c:=(by rw [wrap64]<;>omega);have w:an .i64 (2*(σ.dist:Int))=2*(σ.dist:Int):=(by rw [wrap64]<;>omega);by_cases p:2*(σ.dist:Int)<=b+c
     . simp only [BZ,ab,d,u,w,p,seval];exact⟨S.gr,.inl (.inr ⟨j,b,m,c,l,t1,p⟩)⟩
     . by_cases A:b<=c
       . simp only [BZ,ab,Xc,d,u,w,p,A,e,seval];exact⟨S.gr,.inr ⟨false,⟨j,b,m,c,l,t1,by omega,(decide_eq_false (by omega)).symm⟩,rfl⟩⟩
       . simp only [BZ,ab,Xc,d,u,w,p,A,f,seval];exact⟨S.gr,.inr ⟨true,⟨j,b,m,c,l,t1,by omega,(decide_eq_true (by omega)).symm⟩,rfl⟩⟩
theorem breach_ok  (ok:OZ h0)      {X:Bool->Sx} {F:Bool->List Nat}    (a:fg h0 br pn s t vPi X F vE N σ)
 (sP:az h0 1 (encI .i64) vPi pis) (lP:pis.length=N\/pis=[]/\vPi=.slice none 0 0) (nP: ∀c,aq vPi c->c∉boB br pn s t vPi X F vE σ) (hN:N<=12)    (hv:v<N) (hl:lab<=13*cH) (hd:σ.dist<=FAR)
 (hb: ∀j v l,(σ.sd j).L v=some l->l<=13*cH) (bn: ∀l,(σ.sd i).L v=some l->v∉(σ.sd i).O->(σ.sd i).K v=some (2*l+qB (fun v=>pis.getD v 0) i v)) (bo:(σ.sd i).L v=none->(σ.sd i).K v=none):
 Ret zM 133 [ptrTo br,ptrTo (X i).b,.int .i64 (v:Nat),.int .i64 (byI p),.int .i64 (lab:Nat)] h0 fun _ h'=>Mo (· ∈boB br pn s t vPi X F vE σ) h0 h'/\ ∃A F',fg h' br pn s t vPi A F' vE N (dk (fun v=>pis.getD v 0) i σ v lab p)/\(∀j,(A j).b=(X j).b/\(A j).vA=(X j).vA/\(A j).vH=(X j).vH)/\ ∀c∈boB br pn s t vPi A F' vE (dk (fun v=>pis.getD v 0) i σ v lab p),c∈boB br pn s t vPi X F vE σ\/h0.n<=c:=by
 have fr:=gQ;have wm:=jP;have S:=a.st ok i;have T:dk (fun v=>pis.getD v 0) i σ v lab p=σ-> ∀h,Gr h0 h->Mo (· ∈boB br pn s t vPi X F vE σ) h0 h/\ ∃A F',fg h br pn s t vPi A F' vE N (dk (fun v=>pis.getD v 0) i σ v lab p)/\(∀j,(A j).b=(X j).b/\(A j).vA=(X j).vA/\(A j).vH=(X j).vH)/\ ∀c∈boB br pn s t vPi A F' vE (dk (fun v=>pis.getD v 0) i σ v lab p),c∈boB br pn s t vPi X F vE σ\/h0.n<=c:=
  fun e h g=>⟨g.fr,X,F,by rw [e];exact a.gr g,fun _=>⟨rfl,rfl,rfl⟩,fun c d=>.inl (by rw [e]at d;exact d)⟩
 have Ho:=a.ok i;have Hq:=a.ok (!i);have H:=a.heap i;have Hx:=a.heap (!i);have hk:=fun j c (d:c∈F j)=>a.apart' i d;have ad: ∀j,∀c∈F j,c∈boB br pn s t vPi X F vE σ\/h0.n<=c:=fun j c d=>.inl (qW d);generalize bx:boB br pn s t vPi X F vE σ=BB at S T ad;rcases hX:X i with⟨y,xp,xl,xa,xc,vA,vH,el,cl,ea,ca,ec,cc⟩;rcases hY:X (!i)with⟨yb,yp,yl,ya,yc,wA,wH,fl,dl,fa,da,fc,dc⟩;rw [hX]at Ho H;rw [hY]at Hq Hx;obtain⟨gl,ML,bf⟩:=Ho.ml;obtain⟨ga,MA,bp⟩:=Ho.ma;obtain⟨gc,MC,bh⟩:=Ho.mc;simp only []at ML MA MC;simp only [LC,boL,boG,ib,Sx.L,Sx.row,hX,hY]at S hk;have f: ∀j,∀c∈F j,c≠br/\c≠y/\c≠xl/\c≠xa:=fun j c d=>by have h:=hk j c d;simp only [keys,Xm,List.mem_append,Xk,not_or]at h;exact⟨h.1.1,h.1.2.1,h.1.2.2.1,h.1.2.2.2.1⟩
 have l4:h0.load br 4 1=some [vPi]:=S.ld (b:=br) (o:=4) m0 rfl;have a7:=fun c d=>S.key_lt (b:=c) d;have af: ∀j:Bool,j≠i->j= !i:=fun j h=>by cases i<;>cases j<;>first|rfl|exact absurd rfl h
 have bi:(!i)≠i:=by cases i<;>decide
 have W : ∀(h':Hp) (F6:List Nat) (J K:List (Value×Value×Nat)) (Y Z:Nat) (U:Bi),U=dk (fun v=>pis.getD v 0) i σ v lab p->U.sd=dG σ.sd i (eR (fun v=>pis.getD v 0) (σ.sd i) i v lab p)->U.ev=σ.ev->
  St (· ∈BB) h0 h' [(br,.row [pn,.int .i64 (s:Nat),.int .i64 (t:Nat),.slice none 0 0,vPi,ptrTo (X false).b,ptrTo (X true).b,.int .i64 (U.dist:Nat),.slice none 0 0,vE,.int .i64 (U.meet:Nat)] 1),(y,.row [ptrTo xp,.int .i64 (jG i:Nat),.int .i64 (kD i),vA,vH,.map (some xl),.map (some xa),.map (some xc)] 1),(xl,.map J Y),(xa,.map K Z),(xc,.map ec cc),(yb,.row [ptrTo yp,.int .i64 (jG (!i):Nat),.int .i64 (kD (!i)),wA,wH,.map (some yl),.map (some ya),.map (some yc)] 1),(yl,.map fl dl),(ya,.map fa da),(yc,.map fc dc)] [(vE,4,σ.ev.flatMap jr)]->
  cE h' F6 (ptrTo xp) N (dp (σ.sd i).K v (some (2*lab+qB (fun v=>pis.getD v 0) i v)))->cE h' (F (!i)) (ptrTo yp) N (σ.sd (!i)).K->(∀c∈F6,c∈F i\/h0.n<=c)->dL J Y (dS gl v (some (.int .i64 (lab:Nat))))->dL K Z (dS ga v (some (.int .i64 (byI p))))->
  Mo (· ∈BB) h0 h'/\ ∃A F',fg h' br pn s t vPi A F' vE N (dk (fun v=>pis.getD v 0) i σ v lab p)/\(∀j,(A j).b=(X j).b/\(A j).vA=(X j).vA/\(A j).vH=(X j).vH)/\ ∀c∈boB br pn s t vPi A F' vE (dk (fun v=>pis.getD v 0) i σ v lab p),c∈BB\/h0.n<=c:=by
  intro h' F6 J K Y Z U bq e1 e2 S H6 E B G I;rw [<-bq]
  let A:Bool->Sx:=fun j=>if j=i then⟨y,xp,xl,xa,xc,vA,vH,J,Y,K,Z,ec,cc⟩else X j
  let F':Bool->List Nat:=fun j=>if j=i then F6 else F j
  have xi:A i=⟨y,xp,xl,xa,xc,vA,vH,J,Y,K,Z,ec,cc⟩:=if_pos rfl;have xo:A (!i)=X (!i):=if_neg bi;have fi:F' i=F6:=if_pos rfl;have fo:F' (!i)=F (!i):=if_neg bi;have a8: ∀j,(A j).b=(X j).b/\(A j).vA=(X j).vA/\(A j).vH=(X j).vH:=fun j=>by
   by_cases V:j=i
   . subst V;rw [xi,hX];exact⟨rfl,rfl,rfl⟩
   . rw [af j V,xo];exact⟨rfl,rfl,rfl⟩
  have eL:boL i br pn s t vPi A vE U=[(br,.row [pn,.int .i64 (s:Nat),.int .i64 (t:Nat),.slice none 0 0,vPi,ptrTo (X false).b,ptrTo (X true).b,.int .i64 (U.dist:Nat),.slice none 0 0,vE,.int .i64 (U.meet:Nat)] 1),(y,.row [ptrTo xp,.int .i64 (jG i:Nat),.int .i64 (kD i),vA,vH,.map (some xl),.map (some xa),.map (some xc)] 1),(xl,.map J Y),(xa,.map K Z),(xc,.map ec cc),(yb,.row [ptrTo yp,.int .i64 (jG (!i):Nat),.int .i64 (kD (!i)),wA,wH,.map (some yl),.map (some ya),.map (some yc)] 1),(yl,.map fl dl),(ya,.map fa da),(yc,.map fc dc)]:=by simp only [boL,ib,Sx.L,Sx.row,xi,xo,hY,(a8 false).1,(a8 true).1,Xv,Xy]
  have eG:boG vE U=[(vE,4,σ.ev.flatMap jr)]:=by unfold boG;rw [e2]
  have keyE: ∀c,c∈keys (boL i br pn s t vPi A vE U) (boG vE U)->c<h0.n:=fun c d=>by rw [eL,eG]at d;exact a7 c d
  have a5: ∀c,c∈F i\/c∈F (!i)->c∉keys (boL i br pn s t vPi A vE U) (boG vE U):=fun c d M=>by rw [eL,eG]at M;exact d.elim (fun h=>hk i c h M) (fun h=>hk (!i) c h M)
  rw [<-eL,<-eG]at S;have ap:=fun j c (d:c∈F j)=>(a.apart j c d).2;have lF:=fun j=>(a.heap j).lt ok;refine⟨S.fr,A,F',fg.of i S (fun j=>?_) (fun j=>?_) (fun j c d=>?_),a8,fun c d=>?_⟩
  . by_cases V:j=i
    . subst V;rw [fi,xi,e1,eS];exact H6
    . rw [af j V,fo,xo,e1,nK,hY];exact E
  . by_cases V:j=i
    . subst V;rw [xi,e1,eS];refine⟨⟨_,G,fun u=>?_⟩,⟨_,I,fun u hu=>?_⟩,⟨gc,MC,bh⟩⟩
      . simp only [dS,eR];by_cases hu:u=v
        . subst hu;simp
        . rw [if_neg (by omega),if_neg hu];exact bf u
      . simp only [dS,eR,mS]at hu⊢;by_cases ba:u=v
        . subst ba;simp
        . rw [if_neg (by omega),if_neg ba];rw [if_neg ba]at hu;exact bp u hu
    . rw [af j V,xo,e1,nK];exact a.ok _
  . by_cases V:j=i
    . subst V;rw [fi]at d;rw [fo];rcases B c d with h|h
      . exact⟨a5 c (.inl h),ap _ c h⟩
      . exact⟨fun M=>by have:=keyE c M;omega,fun M=>by have:=lF _ c M;omega⟩
    . rw [af j V]at d⊢;rw [fo]at d;rw [XS,fi];refine⟨a5 c (.inr d),fun M=>?_⟩;rcases B c M with h|h
      . exact ap _ c h d
      . have:=lF _ c d;omega
  . have hB: ∀j,∀c∈F' j,c∈BB\/h0.n<=c:=fun j c d=>by
     by_cases V:j=i
     . subst V;rw [fi]at d;exact(B c d).elim (fun h=>ad _ c h) .inr
     . rw [af j V,fo]at d;exact ad _ c d
    rcases List.mem_append.1 d with d|d
    . refine(S.key_own ?_).symm;unfold keys at d⊢;rcases List.mem_append.1 d with h|h
      . exact zO _ (((oV i).map _).mem_iff.2 h)
      . exact Xh _ h
    . rcases List.mem_append.1 d with d|d
      . exact hB _ c d
      . exact hB _ c d
 refine aa (n:=132) (rs:=[]) rfl Tryz.e133 rfl rfl rfl (lbt rfl) ?_;simp only [BZ,seval];refine ag (bpi_ok S.ok l4 sP (lP.imp (fun e=>by omega) id)) ?_;intro h1 g1;replace S:=S.call g1;replace H:=H.gr g1;replace Hx:=Hx.gr g1;have D:=nI (x:=(v:Int)) Tryz.t272.1 Tryz.t3.1 (z:=.int .i64 0) (by kernel_rfl) (show h1.get xl=some (.map el cl)from(S.own _ m2).2) ML;have O:=li (x:=(v:Int)) Tryz.t230.1 Tryz.t3.1 (z:=.int .i64 0) (by kernel_rfl) (show h1.get xc=some (.map ec cc)from(S.own _ m4).2) MC;rw [bf]at D;rw [bh]at O;generalize hp:pis.getD v 0=pv;by_cases L:OpB (fun v=>pis.getD v 0) v
 . have ho : decide (-(FAR:Int)<pv/\pv<FAR)=true:=decide_eq_true (by rw [<-hp];exact L);by_cases hO:v∈(σ.sd i).O
   . rw [if_pos hO]at O;simp only [BZ,ho,D,O,Xj,S.ld (b:=y) (o:=5) m1 rfl,S.ld (b:=y) (o:=7) m1 rfl,seval];exact T (by unfold dk;rw [if_pos (.inl hO)]) _ g1
   . rw [if_neg hO]at O;have bk:an .i64 (2*(lab:Int))=2*(lab:Int):=(by rw [wrap64]<;>omega);have bB: -(FAR:Int)<pv/\pv<FAR:=of_decide_eq_true ho;have bl:an .i64 (kD i*pv)=kD i*pv:=(by rw [wrap64]<;>cases i<;>simp only [kD,if_true,if_false,XU]<;>omega);have Q:kD i*pv=qB (fun v=>pis.getD v 0) i v:=(by unfold qB;simp only [hp];cases i<;>simp [kD]);have a6:an .i64 (2*(lab:Int)+kD i*pv)=2*(lab:Int)+kD i*pv:=(by rw [wrap64]<;>cases i<;>simp only [kD,if_true,if_false,XU]<;>omega);cases hL:(σ.sd i).L v with
     | none =>
       rw [hL]at D;simp only [XQ,Xw,XV]at D;have R:dk (fun v=>pis.getD v 0) i σ v lab p=rP ((σ.sd (!i)).L v) ⟨dG σ.sd i (eR (fun v=>pis.getD v 0) (σ.sd i) i v lab p),σ.ev,σ.dist,σ.meet⟩ v lab:=(by unfold dk;rw [if_neg (by rw [hL];rintro(h|h|h);exact hO h;exact h L;cases h)]);simp only [BZ,ho,D,O,Xw,S.ld (b:=y) (o:=5) m1 rfl,S.ld (b:=y) (o:=7) m1 rfl,seval];refine ao (av rfl) (q:=0) (ps:=[]) (by kernel_rfl) ?_;simp only [BZ,cls,S.ld (b:=y) (o:=5) m1 rfl,S.ld (b:=y) (o:=6) m1 rfl,seval];obtain⟨h2,n1,e1,ai,bs,bt,_,S1,bb⟩:=S.mentI (i:=2) (x:=(v:Int)) rfl Tryz.t272.1 Tryz.t3.1 (z:=.int .i64 0) (by kernel_rfl) ML;refine mj (P:=fun h' v'=>h'=h2/\v'=.tuple #[(gl v).getD (.int .i64 0),.int .i64 (X9 n1)]) ⟨h2,_,e1,rfl,rfl⟩ ?_;rintro h' v' ⟨rfl,rfl⟩;clear S;have S:=S1;clear S1;simp only [LC]at S;obtain⟨J,ak,G⟩:=bb (.int .i64 (lab:Nat));simp only [BZ,cls,XG,seval];refine cM (S.mstoreI (i:=2) rfl ak) ?_;clear S;rintro h3 ⟨al,S⟩;simp only [LC]at S;simp only [BZ,cls,seval];obtain⟨h4,n2,e2,ax,bu,bv,_,S1,bc⟩:=S.mentI (i:=3) (x:=(v:Int)) rfl Tryz.t230.1 Tryz.t3.1 (z:=.int .i64 0) (by kernel_rfl) MA;refine mj (P:=fun h' v'=>h'=h4/\v'=.tuple #[(ga v).getD (.int .i64 0),.int .i64 (X9 n2)]) ⟨h4,_,e2,rfl,rfl⟩ ?_;rintro h' v' ⟨rfl,rfl⟩;clear S;have S:=S1;clear S1;simp only [LC]at S;obtain⟨K,ay,I⟩:=bc (.int .i64 (byI p));simp only [BZ,cls,XG,seval];refine cM (S.mstoreI (i:=3) rfl ay) ?_;clear S;rintro h5 ⟨aL,S⟩;simp only [LC]at S;simp only [BZ,bk,bl,a6,S.ld (b:=y) (o:=2) m1 rfl,S.ld (b:=y) (o:=0) m1 rfl,seval];have H5:=(((H.mo ai (fun c d=>(f i c d).2.2.1)).mo al (fun c d=>(f i c d).2.2.1)).mo ax (fun c d=>(f i c d).2.2.2)).mo aL (fun c d=>(f i c d).2.2.2);have bd:=(((Hx.mo ai (fun c d=>(f _ c d).2.2.1)).mo al (fun c d=>(f _ c d).2.2.1)).mo ax (fun c d=>(f _ c d).2.2.2)).mo aL (fun c d=>(f _ c d).2.2.2);refine step_ret (pH S.ok H5 hv (by omega) (bo hL)) ?_;rintro r h6 ⟨f6,F6,H6,bm⟩;have k5:=S.fr.n;have B: ∀c∈F6,c∈F i\/h0.n<=c:=fun c d=>(bm c d).imp (fun h=>h) (fun h=>by omega);have E:=bd.mo f6 (fun c d M=>(a.apart (!i) c d).2 (by rw [XS];exact M));replace S:=S.stepF f6 (fun c d=>⟨ad i c d,hk i c d⟩);simp only [BZ];refine ao (av rfl) (q:=0) (ps:=[]) (by kernel_rfl) ?_;have wo:an .i64 (1-((jG i:Nat):Int))=((jG (!i):Nat):Int):=(by cases i<;>rfl);have io:iN (.int .i64 ((jG (!i):Nat):Int)) 2=some (jG (!i)):=iD (by cases i<;>decide);have ly:h6.load br (5+jG (!i)) 1=some [ptrTo yb]:=S.ld (b:=br) m0 (by
        cases i
        . show some (ptrTo (X true).b)=_;rw [show X true=_ from hY]
        . show some (ptrTo (X false).b)=_;rw [show X false=_ from hY])
       obtain⟨gq,MQ,be⟩:=Hq.ml;have w:=nI (x:=(v:Int)) Tryz.t272.1 Tryz.t3.1 (z:=.int .i64 0) (by kernel_rfl) (show h6.get yl=some (.map fl dl)from(S.own _ m6).2) MQ;rw [be]at w;cases hM:(σ.sd (!i)).L v with
       | none=>
         rw [hM]at w;simp only [XQ,Xw,XV]at w;simp only [BZ,cls,wo,io,ly,w,S.ld (b:=y) (o:=1) m1 rfl,S.ld (b:=yb) (o:=5) m5 rfl,seval];refine W _ F6 _ _ _ _ ⟨dG σ.sd i (eR (fun v=>pis.getD v 0) (σ.sd i) i v lab p),σ.ev,σ.dist,σ.meet⟩ ?_ rfl rfl S (by rw [<-Q];exact H6) E B G I;rw [R,hM];rfl
       | some m=>
         have M:=hb _ v m hM;have a0:an .i64 ((lab:Int)+(m:Int))=((lab+m:Nat):Int):=(by rw [wrap64]<;>omega);rw [hM]at w;simp only [XE,Xj,XW]at w;by_cases hlt:lab+m<σ.dist
         . have C:((lab+m:Nat):Int)<(σ.dist:Int):=(by omega);simp only [BZ,cls,wo,io,ly,w,a0,C,S.ld (b:=y) (o:=1) m1 rfl,S.ld (b:=yb) (o:=5) m5 rfl,S.ld (b:=br) (o:=7) m0 rfl,seval];refine aC (aE S (i:=0) rfl Tryz.t2.2.2.1 aZ (Xg (lbt rfl)) ono) ?_;clear S;rintro h7 ⟨S,a1⟩;simp only [LC]at S;simp only [BZ,seval];refine aC (aE S (i:=0) rfl Tryz.t3.2.2.1 aZ (Xg (lbt rfl)) ono) ?_;clear S;rintro h8 ⟨S,a2⟩;simp only [LC]at S;simp only [BZ];have a3: ∀c∈F6,¬c=br:=fun c d=>by
            rcases B c d with h|h
            . exact(f i c h).1
            . have:=a7 br (zO _ (XK));intro e;omega
           refine W _ F6 _ _ _ _ ⟨dG σ.sd i (eR (fun v=>pis.getD v 0) (σ.sd i) i v lab p),σ.ev,lab+m,v⟩ ?_ rfl rfl S (by rw [<-Q];exact(H6.mo a1 a3).mo a2 a3) ((E.mo a1 (fun c d=>(f _ c d).1)).mo a2 (fun c d=>(f _ c d).1)) B G I;rw [R,hM];exact(if_pos hlt).symm
         . have C: ¬((lab+m:Nat):Int)<(σ.dist:Int):=(by omega);simp only [BZ,cls,wo,io,ly,w,a0,C,S.ld (b:=y) (o:=1) m1 rfl,S.ld (b:=yb) (o:=5) m5 rfl,S.ld (b:=br) (o:=7) m0 rfl,seval];refine W _ F6 _ _ _ _ ⟨dG σ.sd i (eR (fun v=>pis.getD v 0) (σ.sd i) i v lab p),σ.ev,σ.dist,σ.meet⟩ ?_ rfl rfl S (by rw [<-Q];exact H6) E B G I;rw [R,hM];exact(if_neg hlt).symm
     | some l =>
       rw [hL]at D;simp only [XE,Xj,XW]at D;by_cases hle:l<=lab
       . have a4:(l:Int)<=(lab:Int):=(by omega);simp only [BZ,ho,D,O,Xw,a4,S.ld (b:=y) (o:=5) m1 rfl,S.ld (b:=y) (o:=7) m1 rfl,seval];exact T (by unfold dk;rw [if_pos (.inr (.inr (by rw [hL];exact decide_eq_true hle)))]) _ g1
       . have a4: ¬(l:Int)<=(lab:Int):=(by omega);have R:dk (fun v=>pis.getD v 0) i σ v lab p=rP ((σ.sd (!i)).L v) ⟨dG σ.sd i (eR (fun v=>pis.getD v 0) (σ.sd i) i v lab p),σ.ev,σ.dist,σ.meet⟩ v lab:=(by unfold dk;rw [if_neg (by rw [hL];rintro(h|h|h);exact hO h;exact h L;exact hle (of_decide_eq_true h))]);simp only [BZ,ho,D,O,Xw,a4,S.ld (b:=y) (o:=5) m1 rfl,S.ld (b:=y) (o:=7) m1 rfl,seval];refine ao (av rfl) (q:=0) (ps:=[]) (by kernel_rfl) ?_;simp only [BZ,cls,S.ld (b:=y) (o:=5) m1 rfl,S.ld (b:=y) (o:=6) m1 rfl,seval];obtain⟨h2,n1,e1,ai,bs,bt,_,S1,bb⟩:=S.mentI (i:=2) (x:=(v:Int)) rfl Tryz.t272.1 Tryz.t3.1 (z:=.int .i64 0) (by kernel_rfl) ML;refine mj (P:=fun h' v'=>h'=h2/\v'=.tuple #[(gl v).getD (.int .i64 0),.int .i64 (X9 n1)]) ⟨h2,_,e1,rfl,rfl⟩ ?_;rintro h' v' ⟨rfl,rfl⟩;clear S;have S:=S1;clear S1;simp only [LC]at S;obtain⟨J,ak,G⟩:=bb (.int .i64 (lab:Nat));simp only [BZ,cls,XG,seval];refine cM (S.mstoreI (i:=2) rfl ak) ?_;clear S;rintro h3 ⟨al,S⟩;simp only [LC]at S;simp only [BZ,cls,seval];obtain⟨h4,n2,e2,ax,bu,bv,_,S1,bc⟩:=S.mentI (i:=3) (x:=(v:Int)) rfl Tryz.t230.1 Tryz.t3.1 (z:=.int .i64 0) (by kernel_rfl) MA;refine mj (P:=fun h' v'=>h'=h4/\v'=.tuple #[(ga v).getD (.int .i64 0),.int .i64 (X9 n2)]) ⟨h4,_,e2,rfl,rfl⟩ ?_;rintro h' v' ⟨rfl,rfl⟩;clear S;have S:=S1;clear S1;simp only [LC]at S;obtain⟨K,ay,I⟩:=bc (.int .i64 (byI p));simp only [BZ,cls,XG,seval];refine cM (S.mstoreI (i:=3) rfl ay) ?_;clear S;rintro h5 ⟨aL,S⟩;simp only [LC]at S;simp only [BZ,bk,bl,a6,S.ld (b:=y) (o:=2) m1 rfl,S.ld (b:=y) (o:=0) m1 rfl,seval];have H5:=(((H.mo ai (fun c d=>(f i c d).2.2.1)).mo al (fun c d=>(f i c d).2.2.1)).mo ax (fun c d=>(f i c d).2.2.2)).mo aL (fun c d=>(f i c d).2.2.2);have bd:=(((Hx.mo ai (fun c d=>(f _ c d).2.2.1)).mo al (fun c d=>(f _ c d).2.2.1)).mo ax (fun c d=>(f _ c d).2.2.2)).mo aL (fun c d=>(f _ c d).2.2.2);refine step_ret (qT S.ok H5 (by omega) (bn l hL hO) (k:=2*(lab:Int)+kD i*pv) (by rw [Q];omega)) ?_;rintro r h6 ⟨f6,H6⟩;have B: ∀c∈F i,c∈F i\/h0.n<=c:=fun c d=>.inl d;have E:=bd.mo f6 (fun c d M=>(a.apart (!i) c d).2 (by rw [XS];exact M));replace S:=S.stepF f6 (fun c d=>⟨ad i c d,hk i c d⟩);simp only [BZ];refine ao (av rfl) (q:=0) (ps:=[]) (by kernel_rfl) ?_;have wo:an .i64 (1-((jG i:Nat):Int))=((jG (!i):Nat):Int):=(by cases i<;>rfl);have io:iN (.int .i64 ((jG (!i):Nat):Int)) 2=some (jG (!i)):=iD (by cases i<;>decide);have ly:h6.load br (5+jG (!i)) 1=some [ptrTo yb]:=S.ld (b:=br) m0 (by
          cases i
          . show some (ptrTo (X true).b)=_;rw [show X true=_ from hY]
          . show some (ptrTo (X false).b)=_;rw [show X false=_ from hY])
         obtain⟨gq,MQ,be⟩:=Hq.ml;have w:=nI (x:=(v:Int)) Tryz.t272.1 Tryz.t3.1 (z:=.int .i64 0) (by kernel_rfl) (show h6.get yl=some (.map fl dl)from(S.own _ m6).2) MQ;rw [be]at w;cases hM:(σ.sd (!i)).L v with
         | none=>
           rw [hM]at w;simp only [XQ,Xw,XV]at w;simp only [BZ,cls,wo,io,ly,w,S.ld (b:=y) (o:=1) m1 rfl,S.ld (b:=yb) (o:=5) m5 rfl,seval];refine W _ (F i) _ _ _ _ ⟨dG σ.sd i (eR (fun v=>pis.getD v 0) (σ.sd i) i v lab p),σ.ev,σ.dist,σ.meet⟩ ?_ rfl rfl S (by rw [<-Q];exact H6) E B G I;rw [R,hM];rfl
         | some m=>
           have M:=hb _ v m hM;have a0:an .i64 ((lab:Int)+(m:Int))=((lab+m:Nat):Int):=(by rw [wrap64]<;>omega);rw [hM]at w;simp only [XE,Xj,XW]at w;by_cases hlt:lab+m<σ.dist
           . have C:((lab+m:Nat):Int)<(σ.dist:Int):=(by omega);simp only [BZ,cls,wo,io,ly,w,a0,C,S.ld (b:=y) (o:=1) m1 rfl,S.ld (b:=yb) (o:=5) m5 rfl,S.ld (b:=br) (o:=7) m0 rfl,seval];refine aC (aE S (i:=0) rfl Tryz.t2.2.2.1 aZ (Xg (lbt rfl)) ono) ?_;clear S;rintro h7 ⟨S,a1⟩;simp only [LC]at S;simp only [BZ,seval];refine aC (aE S (i:=0) rfl Tryz.t3.2.2.1 aZ (Xg (lbt rfl)) ono) ?_;clear S;rintro h8 ⟨S,a2⟩;simp only [LC]at S;simp only [BZ];have a3: ∀c∈F i,¬c=br:=fun c d=>by
              rcases B c d with h|h
              . exact(f i c h).1
              . have:=a7 br (zO _ (XK));intro e;omega
             refine W _ (F i) _ _ _ _ ⟨dG σ.sd i (eR (fun v=>pis.getD v 0) (σ.sd i) i v lab p),σ.ev,lab+m,v⟩ ?_ rfl rfl S (by rw [<-Q];exact(H6.mo a1 a3).mo a2 a3) ((E.mo a1 (fun c d=>(f _ c d).1)).mo a2 (fun c d=>(f _ c d).1)) B G I;rw [R,hM];exact(if_pos hlt).symm
           . have C: ¬((lab+m:Nat):Int)<(σ.dist:Int):=(by omega);simp only [BZ,cls,wo,io,ly,w,a0,C,S.ld (b:=y) (o:=1) m1 rfl,S.ld (b:=yb) (o:=5) m5 rfl,S.ld (b:=br) (o:=7) m0 rfl,seval];refine W _ (F i) _ _ _ _ ⟨dG σ.sd i (eR (fun v=>pis.getD v 0) (σ.sd i) i v lab p),σ.ev,σ.dist,σ.meet⟩ ?_ rfl rfl S (by rw [<-Q];exact H6) E B G I;rw [R,hM];exact(if_neg hlt).symm
 . have ho:decide (-(FAR:Int)<pv/\pv<FAR)=false:=decide_eq_false (by rw [<-hp];exact L);simp only [BZ,ho,D,S.ld (b:=y) (o:=5) m1 rfl,seval];exact T (by unfold dk;rw [if_pos (.inr (.inl L))]) _ g1
theorem cE.lo{h:Hp}{F:List Nat}{p:Value}{N x:Nat}{K:Nat->Option Int}(a:cE h F p N K):cE {h with lo:=x} F p N K:=by obtain⟨c,d,l,e,f,g,i,j⟩:=a.ex;exact⟨⟨c,d,l,e,f,g,i,j.imp (fun h=>h) (fun⟨m,b,e,k⟩=>⟨m,b,e,⟨k.row,k.ex,k.ne⟩⟩)⟩⟩
theorem Ae(l:OZ h0){L:Nat}(M:aS h0 L (ptrTo r) f){a:List Value}(R:Row h0 br a 1)(d:a[0]? =some (ptrTo r))(g:a.length=11){vA j:Value}(O:Fl vA)(Q:Fl j):
 Ret zM 128 [ptrTo br,.int .i64 (jG i:Nat),.int .i64 (v:Nat),.int .i64 (kD i),vA,j] h0 fun _ h'=>Mo (· =br) h0 h'/\ ∃(x:Sx) (F:List Nat),Row h' br (a.set (5+jG i) (ptrTo x.b)) 1/\(∀q∈x.L i,Has h' q.1 q.2)/\x.vA=vA/\x.vH=j/\x.Ok iJ/\cE h' F (ptrTo x.p) f.nodes (fun _=>none)/\(∀c∈keys (x.L i) []++F,h0.n<=c)/\(keys (x.L i) []).Nodup/\ ∀c∈F,c∉keys (x.L i) []:=by
 have S:=St.init1 l (o:=.row a 1) R;have U:=R.load1 (o:=0) d;refine aa (n:=32) (rs:=[]) rfl Tryz.e128 rfl rfl rfl (lbt rfl) ?_;simp only [BZ];refine ao (av rfl) (q:=94400) (ps:=[]) (by kernel_rfl) ?_;simp only [BZ,cls,U,seval];refine vg (bM (h0:={h0 with lo:=h0.n}) S.ok (M.keep l (fun _ _=>rfl))) ?_;intro m s;replace S:=S.call s;simp only [BZ,cls,seval];refine dq_ret (P:=fun v h'=> ∃F,cE h' F v f.nodes (fun _=>none)/\ ∀b∈F,m.n<=b) ((sX (h0:={m with lo:=m.n}) S.ok (N:=f.nodes)).mono fun v h' h=>⟨h.1,h.2.imp fun F h=>⟨h.1.lo,h.2⟩⟩) ?_;rintro t h2 p ⟨F,H,u⟩;replace S:=S.call p;have V:=S;replace S:=S.base;simp only [LC,keys,Xm,Xr,Xe]at S;have W:Fl t:=by obtain⟨_,_,_,rfl,_⟩:=H.ex;exact bD
 simp only [BZ,cls,seval];refine df oa S ?_;clear S;intro h X S w y;simp only [BZ,cls,seval];refine df oa S ?_;clear S;intro h Y S z A;simp only [BZ,cls,seval];refine df oa S ?_;clear S;intro h Z S B C;simp only [BZ,cls,W,O,Q,seval];refine df (aV (by intro x e;cases e)) S ?_;clear S;intro h xb S D E;simp only [ae]at S;have io:iN (.int .i64 ((jG i:Nat):Int)) 2=some (jG i):=iD (by cases i<;>decide);simp only [BZ,cls,io,seval];refine cM (aE S (i:=4) rfl Tryz.t207.2.2.1 bD (by rw [g];cases i<;>decide) ono) ?_;clear S;rintro G ⟨S,mo⟩;simp only [LC]at S;simp only [BZ,seval];have k2:=p.n;have k1:=s.n;obtain⟨I,ep⟩: ∃b,t=ptrTo b:=by obtain⟨b,_,_,e,_⟩:=H.ex;exact⟨b,e⟩
 subst ep;have lF:=H.lt p.ok;have zb:=R.lt l;have H9:cE G F (ptrTo I) f.nodes (fun _=>none):=H.mo S.fr (fun c d k=>by
  have:=u c d;have:c=br:=by simpa using k
  omega)
 have J:=S.apart;simp only [keys,Xm,Xr,Xe,Xa,X6,Xk,Xf,or_false,not_or]at J;have T:St (· =br) h0 G _ _:=V.rebase S;refine⟨T.fr,⟨xb,I,X,Y,Z,vA,j,[],0,[],0,[],0⟩,F,T.row m4,?_,rfl,rfl,?_,H9,?_,?_,?_⟩
 . intro q K;simp only [Sx.L,Sx.row,Xk,Xf,or_false]at K;rcases K with rfl|rfl|rfl|rfl
   . exact(T.own _ m0).2
   . exact(T.own _ m3).2
   . exact(T.own _ m2).2
   . exact(T.own _ m1).2
 . exact⟨⟨_,nJ,fun v=>rfl⟩,⟨_,nJ,fun v h=>by cases h⟩,⟨_,nJ,fun v=>(if_neg (by simp [iJ])).symm⟩⟩
 . intro c d;rcases List.mem_append.1 d with d|d
   . simp only [Sx.L,keys,Xm,Xr,Xe,Xa,Xk,Xf,or_false]at d;rcases d with rfl|rfl|rfl|rfl<;>omega
   . have:=u c d;omega
 . simp only [Sx.L,keys,Xm,Xr,Xe,Xa,X6,Xk,Xf,or_false,not_or,List.nodup_nil,and_true,not_false_eq_true];obtain⟨⟨a1,a2,a3,a4⟩,⟨b1,b2,b3⟩,⟨c1,c2⟩,_⟩:=J;exact⟨⟨a3,a2,a1⟩,⟨fun e=>c1 e.symm,fun e=>b2 e.symm⟩,fun e=>b1 e.symm⟩
 . intro c d k;have:=lF c d;simp only [Sx.L,keys,Xm,Xr,Xe,Xa,Xk,Xf,or_false]at k;rcases k with rfl|rfl|rfl|rfl<;>omega
inductive NxtL(nx:Nat->Option (Nat×Nat)):Nat->List Nat->Prop where
 |nil {v:Nat}:nx v=none->NxtL nx v []
 |cons {v x w:Nat} {l:List Nat}:nx v=some (x,w)->NxtL nx w l->NxtL nx v (x::l)
def nxV:Option (Nat×Nat)->Value
 |none=>.tuple #[.int .i64 0,.int .i64 0,.bool false]|some (x,w)=>.tuple #[.int .i64 (x:Nat),.int .i64 (w:Nat),.bool true]
theorem chain_ok(L:OZ h0){g:FuncId}{post:Array Value}{nx:Nat->Option (Nat×Nat)}{D:Nat->Prop}(E: ∀h,Gr h0 h-> ∀v,D v->Ret zM g ([.int .i64 (v:Nat)]++post.toList) h fun r h'=>Gr h h'/\r=nxV (nx v))(M: ∀v x w,D v->nx v=some (x,w)->D w){l:List Nat}(i:D v)(p:NxtL nx v l)(F:l.length<=1000):
 Ret zM 211 [.int .i64 (v:Nat),.func (.func g) #[] post] h0 fun r h'=>Gr h0 h'/\ia h' (r,1,l.flatMap bK)/\ ∀c,aq r c->h0.n<=c:=by
 have S:=Si L;refine aa (n:=28) (rs:=[.tmp 4]) rfl Tryz.e211 rfl rfl rfl (lbt rfl) ?_;simp only [BZ,seval];refine step_ret (E _ S.gr v i) ?_;rintro r Z ⟨N,rfl⟩;replace S:=S.call N;have q: ∀(o:Option (Nat×Nat)),∃x w b,nxV o=.tuple #[.int .i64 x,.int .i64 w,.bool b]:=fun o=>by
  rcases o with _|⟨x,w⟩
  . exact⟨_,_,_,rfl⟩
  . exact⟨_,_,_,rfl⟩
 obtain⟨O,P,Q,A⟩:=q (nx v);simp only [BZ,A,seval];replace S:=S.nilG (k:=1);refine aW (fun(a:List Nat) f h=> ∃done v x w b B,l=done++a/\D v/\NxtL nx v a/\nxV (nx v)=.tuple #[.int .i64 x,.int .i64 w,.bool b]/\St NoM h0 h [] [(B,1,eJ done)]/\f 1=.func (.func g) #[] post/\f 4=B/\f 5=.int .i64 x/\f 6=.int .i64 w/\f 7=.bool b) (fun a=>a.length) ?_ l _ _ ?_
 . clear S p i A;intro a R f h ⟨done,v,x,w,b,B,t,i,p,e,S,r1,r4,r5,r6,r7⟩;cases p with
   | nil z=>
     rw [z]at e;simp only [nxV,Value.tuple.injEq,Array.mk.injEq,List.cons.injEq,Value.bool.injEq,Value.int.injEq]at e;obtain⟨⟨_,rfl⟩,⟨_,rfl⟩,rfl,_⟩:=e;simp only [BZ,ab,r4,r7,seval];rw [Xa]at t;subst t;refine⟨S.gr,(S.gown _ m0).1,fun c T=>?_⟩;exact((S.gown _ m0).2 c (mD (S.gown _ m0).1 T)).elim (fun h=>h) (fun h=>h.elim)
   | @cons _ y u d z U=>
     rw [z]at e;simp only [nxV,Value.tuple.injEq,Array.mk.injEq,List.cons.injEq,Value.bool.injEq,Value.int.injEq]at e;obtain⟨⟨_,rfl⟩,⟨_,rfl⟩,rfl,_⟩:=e;have G:done.length+(d.length+1)<=1000:=(by rw [t]at F;simpa using F);have H:=M _ _ _ i z;simp only [BZ,r4,r5,r7,seval];refine ac (ce (by exact Tryz.t41.1) (by exact Xp) (by decide) (by rfl)) S ?_;clear S;intro h I S J;simp only [LC,bH,cg,ae,Xq,Xl,Xo,Xx,seval]at S;simp only [BZ,seval];have s:aK h 1 (.slice (some ⟨I,0,none⟩) 1 1)=some (1,eJ [y]):=(by simp only [aK];rw [S.lds (b:=I) (o:=0) (n:=1*1) m0 (lbt rfl)];rfl);replace S:=S.drop1;refine dE (S.grow (j:=0) (m:=1) (new:=eJ [y]) rfl Tryz.t41.1 Xp (by decide) Tryz.t41.2.2.2.2.2 s rfl (by decide) rfl (by rw [m9,m9];simp;omega)) ?_;clear S s;rintro h C S;simp only [LC,<-A8]at S;simp only [BZ,r1,r6,seval];refine step_ret (E _ S.gr u H) ?_;rintro r h2 ⟨V,rfl⟩;replace S:=S.call V;obtain⟨W,X,Y,K⟩:=q (nx u);simp only [BZ,K,seval];exact R d _ _ (by simp) ⟨done++[y],u,W,X,Y,C,by rw [t];simp,H,U,K,S,by simp [aB,r1]⟩
 . exact⟨[],v,O,P,Q,.slice none 0 0,rfl,i,p,A,S,by simp [aB,dh]⟩
theorem head1_ok(d:OZ h0){a:Arc}:aO zM 130 [.agg ⟨c7 a⟩] h0 (.int .i64 (a.t:Nat)):=by have S:=Si d;refine aa (n:=5) (rs:=[.tmp 2]) rfl Tryz.e130 rfl rfl rfl (lbt rfl) ?_;simp only [BZ,c7,seval];refine ac (aV (by intro x e;cases e)) S ?_;clear S;intro h f S c;simp only [ae]at S;simp only [BZ,ab,S.ld (b:=f) (o:=1) m0 rfl,seval];exact S.gr
theorem head2_ok(d:OZ h0){a:Arc}:aO zM 132 [.agg ⟨c7 a⟩] h0 (.int .i64 (a.s:Nat)):=by have S:=Si d;refine aa (n:=5) (rs:=[.tmp 2]) rfl Tryz.e132 rfl rfl rfl (lbt rfl) ?_;simp only [BZ,c7,seval];refine ac (aV (by intro x e;cases e)) S ?_;clear S;intro h f S c;simp only [ae]at S;simp only [BZ,ab,S.ld (b:=f) (o:=0) m0 rfl,seval];exact S.gr
def nxB(A:List Arc)(i:Bool)(P:Nat->List Nat)(v:Nat):Option (Nat×Nat):=match P v with
 | []=>none|a::_=>some (a,fsB i (A.getD a default))
def mV(i:Bool):FuncId:=if i then 132 else 130
theorem Bo(b:OZ h0){a:Arc}:aO zM (mV i) [.agg ⟨c7 a⟩] h0 (.int .i64 (ftB i a:Nat)):=by
 cases i
 . exact head1_ok b
 . exact head2_ok b
structure BkAt(h:Hp)(br:Nat)(pn:Value)(m:Nat)(i:Bool)(x:Sx)(s:Sd):Prop where
 l0:h.load br 0 1=some [pn]
 l10:h.load br 10 1=some [.int .i64 (m:Nat)]
 row:Row h x.b (x.row i) 1
 map:h.get x.ma=some (.map x.ea x.ca)
 ok:x.Ok s
theorem BkAt.gr{h h':Hp}{br:Nat}{pn:Value}{m:Nat}{i:Bool}{x:Sx}{s:Sd}(a:BkAt h br pn m i x s)(g:Gr h h'):BkAt h' br pn m i x s:=⟨g.load a.l0,g.load a.l10,a.row.gr g,g.at a.map,a.ok⟩
theorem fg.bk{X:Bool->Sx}{F:Bool->List Nat}(a:fg h br pn s t vPi X F vE N σ)(i:Bool):BkAt h br pn σ.meet i (X i) (σ.sd i):=by
 obtain⟨R,b⟩:=a.rows;refine⟨R.load1 (o:=0) rfl,R.load1 (o:=10) rfl,b i,?_,a.ok i⟩;have c:Has h (X i).ma (.map (X i).ea (X i).ca):=by
  cases i
  . exact a.own ((X false).ma,.map _ _) (by simp [boL,Sx.L])
  . exact a.own ((X true).ma,.map _ _) (by simp [boL,Sx.L])
 exact c
theorem back1_ok(u:OZ h0){F L:Nat}{x:Sx}{f:Sd}{d:Gra}(M:aS h0 L (ptrTo F) d)(g:Good d)(a:BkAt h0 br (ptrTo F) m i x f)(N:x.vH=.func (.func (mV i)) #[] #[])
 {b3:Nat} (O:h0.load b2 0 1=some [ptrTo br]) (p:h0.load b3 0 1=some [ptrTo x.b]) (P:(f.L v).isSome=true) (Q: ∀e∈f.P v,e<d.arcs.length):
 Ret zM 212 ([.int .i64 (v:Nat)]++[ptrTo b3,ptrTo b2]) h0 fun r h'=>Gr h0 h'/\r=nxV (nxB d.arcs i f.P v):=by
 have S:=Si u;have n2:=g.n2;obtain⟨ga,R,w⟩:=a.ok.ma;have A:=a.l0;have G:=a.row.load1 (o:=6) rfl;have B:=a.row.load1 (o:=4) rfl;rw [N]at B;have T:=a.map;have c:=li (x:=(v:Int)) Tryz.t230.1 Tryz.t3.1 (z:=.int .i64 0) (by kernel_rfl) T R;rw [w v P,Xj]at c;refine aa (n:=40) (rs:=[.tmp 4,.tmp 5,.tmp 6]) rfl Tryz.e212 rfl rfl rfl (lbt rfl) ?_;cases j:f.P v with
 | nil=>rw [j]at c;replace c:dw _ h0 _ _ _ _=some (.int .i64 (-1)):=c;simp only [BZ,ab,p,G,c,seval];exact⟨S.gr,by unfold nxB;rw [j];rfl⟩| cons e l=>
   rw [j]at c;replace c:dw _ h0 _ _ _ _=some (.int .i64 (e:Nat)):=c;have C:=Q e (by rw [j];simp);have U: ¬((e:Int)<0):=(by omega);simp only [BZ,p,G,c,U,O,A,seval];refine step_ret (ku S.ok M C) ?_;rintro r h1 ⟨V,rfl⟩;replace S:=S.call V;obtain⟨W,X,Y⟩:=g.arcs _ (XB C);have k:d.arcs.getD e default=d.arcs[e]:=(by simp [Xd,C]);generalize d.arcs[e]=y at W X Y k;simp only [BZ,c7,seval];refine ac aA S ?_;clear S;intro h s S H;simp only [BZ,seval];refine aC (S.store (i:=0) rfl ?_ ?_ rfl rfl ?_ ono) ?_
   . exact(by exact Tryz.t96.2.1)
   . exact(by intro x e;cases e)
   . exact lbt rfl
   clear S;rintro h ⟨S,Z⟩;clear Z;simp only [LC,ae,lay,XI,XJ,seval]at S;have D:=S.old p (fun h=>h);have E:=S.old B (fun h=>h);have z3:=bA u p;have z4:=bA u B;have w1:an .i64 ((y.s:Int)+(y.t:Int))=(y.s:Int)+(y.t:Int):=(by rw [wrap64]<;>omega);have w2:an .i64 ((y.s:Int)+(y.t:Int)-(ftB i y:Int))=((fsB i y:Nat):Int):=(by cases i<;>simp only [ftB,fsB,if_true,if_false,XU]<;>rw [wrap64]<;>omega);simp only [BZ,seval];refine ao (av rfl) (q:=0) (ps:=[(4,11),(2,11)]) (by kernel_rfl) ?_;simp only [BZ,cls,D,E,w1,S.ld (b:=s) (o:=0) m0 rfl,S.ld (b:=s) (o:=1) m0 rfl,S.lds (b:=s) (o:=0) (n:=3) m0 (lbt rfl),seval];have k8:=(S.row (b:=s) m0).lt S.ok;have n0:=S.gr.n;refine bz (Bo (a:=y) S.ok) ?_;intro h9 t;have I:=am t (show b3<_ by omega);have J:=am t (show x.b<_ by omega);have K:=am t k8;replace S:=S.call t;simp only [BZ,cls,ab,w2,seval];refine⟨by simp only [aJ,aR,aH,aT,aI,ne_eq,not_false_eq_true,aY,bC,aQ,aN,bF,bW,aD,Xs,ah,ar I,au I,ar J,au J,ar K,au K,seval],?_⟩;refine⟨S.gr,?_⟩;unfold nxB;rw [j];simp only [k];rfl
theorem back_ok(E:OZ h0){u F:Nat}{x:Sx}{d:Sd}(G:aS h0 F (ptrTo u) f)(l:Good f)(a:BkAt h0 br (ptrTo u) m i x d)(H:x.vH=.func (.func (mV i)) #[] #[])
 {D:Nat->Prop} (j: ∀v,D v->(d.L v).isSome=true/\ ∀e∈d.P v,e<f.arcs.length) (q: ∀v y w,D v->nxB f.arcs i d.P v=some (y,w)->D w) (I:D m) (p:NxtL (nxB f.arcs i d.P) m (d.P m)) (J:(d.P m).length<=1000):
 Ret zM 136 [ptrTo br,ptrTo x.b] h0 fun r h'=>Gr h0 h'/\ia h' (r,1,(d.P m).flatMap bK)/\ ∀c,aq r c->h0.n<=c:=by
 have S:=Si E;have s:=a.l10;refine aa (n:=11) (rs:=[.tmp 4]) rfl Tryz.e136 rfl rfl rfl (lbt rfl) ?_;simp only [BZ,seval];refine ac (bJ (by exact bD)) S ?_;clear S;intro h t S z;simp only [BZ,if_false,seval];refine ac (bJ (by exact bD)) S ?_;clear S;intro h A S B;have k:=S.old s (fun h=>h);simp only [BZ,k,S.ld (b:=t) (o:=0) m1 rfl,seval];have K:=S.gr.n;have L:=S.ld (b:=t) (o:=0) m1 rfl;have M:=S.ld (b:=A) (o:=0) m0 rfl;refine step_ret (chain_ok S.ok (g:=212) (post:=#[ptrTo A,ptrTo t]) (nx:=nxB f.arcs i d.P) (D:=D) (fun h' g v C=>back1_ok g.ok (G.gr (S.gr.trans g)) l (a.gr (S.gr.trans g)) H (g.load L) (g.load M) (j v C).1 (j v C).2) q I p J) ?_;rintro r R ⟨N,O,P⟩;simp only [BZ,ab,seval];exact⟨S.gr.trans N,O,fun c Q=>XA K (P c Q)⟩
section
variable{A:List Arc}{N:Nat}{al:Nat->Bool}{pi:Nat->Int}{σ:Bi}{rt:Bool->Nat}
structure KeB(b:Bool)(σ τ:Bi):Prop where
 O:(τ.sd b).O=(σ.sd b).O
 L: ∀v∈(σ.sd b).O,(τ.sd b).L v=(σ.sd b).L v/\(τ.sd b).P v=(σ.sd b).P v
 ot:τ.sd (!b)=σ.sd (!b)
theorem KeB.refl:KeB b σ σ:=⟨rfl,fun _ _=>⟨rfl,rfl⟩,rfl⟩
theorem KeB.trans{b:Bool}{τ c:Bi}(h:KeB b σ τ)(g:KeB b τ c):KeB b σ c:=
 ⟨g.O.trans h.O,fun v a=>⟨(g.L v (h.O▸a)).1.trans (h.L v a).1,(g.L v (h.O▸a)).2.trans (h.L v a).2⟩,g.ot.trans h.ot⟩
theorem uq:KeB b σ (dk pi b σ v lab p):=by
 unfold dk
 split
 . exact .refl
 . rename_i a;simp only [not_or,Decidable.not_not]at a;refine⟨?_,fun u c=>?_,?_⟩
   . rw [rB.1];show(dG σ.sd b _ b).O=_;rw [eS];rfl
   . rw [rB.1];show(dG σ.sd b _ b).L u=_/\(dG σ.sd b _ b).P u=_;rw [eS];have e:u≠v:=fun e=>a.1 (e▸c);exact⟨if_neg e,if_neg e⟩
   . rw [rB.1];exact nK
theorem evB_I{e:Ev2}(h:BiI A N rt al pi σ):BiI A N rt al pi (evB σ e):=⟨h.sv,h.dm,h.le⟩
def ua(σ:Bi)(b:Bool)(v m:Nat):Prop:=v∈(σ.sd b).O/\(σ.sd b).L v=some m/\m+cH<=(σ.sd b).O.length*cH/\((σ.sd b).P v).length+1<=(σ.sd b).O.length
theorem ua.ke{τ:Bi}(r:ua σ b v m)(k:KeB b σ τ):ua τ b v m:=by obtain⟨a,c,d,e⟩:=r;exact⟨by rw [k.O];exact a,by rw [(k.L v a).1];exact c,by rw [k.O];exact d,by rw [k.O,(k.L v a).2];exact e⟩
theorem BY(j:N<=12)(k: ∀a∈A,a.s<N/\a.t<N/\a.w<=cH)(h:BiI A N rt al pi σ)(r:ua σ b v m)(l:a<A.length)(d:fsB b (A.getD a default)=v):
 BiI A N rt al pi (gf A al pi b v σ a)/\KeB b σ (gf A al pi b v σ a):=by
 unfold gf
 split
 . rename_i e;obtain⟨n,i,s,o⟩:=r;have q:A.getD a default∈A:=(by grind);obtain⟨t,u,w⟩:=k _ q;have c:labB σ b v=m:=(by unfold labB;rw [i];rfl);have f:ftB b (A.getD a default)<N:=(by unfold ftB;grind);have g:=uq (pi:=pi) (σ:=evB σ ⟨1,b,a,0⟩) (b:=b) (v:=ftB b (A.getD a default)) (lab:=labB σ b v+(A.getD a default).w) (p:=a::(σ.sd b).P v);refine⟨(evB_I h).reach j f ?_ ?_ (.inr ⟨a,m,l,e,rfl,?_,?_,?_,?_⟩),⟨g.O,g.L,g.ot⟩⟩
   . show labB σ b v+_<=(σ.sd b).O.length*cH;omega
   . show((σ.sd b).P v).length+1<=(σ.sd b).O.length;exact o
   . rw [d];exact n
   . rw [d];rfl
   . rw [d];exact i
   . rw [c]
 . exact⟨h,.refl⟩
theorem Cw{b:Bool}{v m:Nat}(d:N<=12)(e: ∀a∈A,a.s<N/\a.t<N/\a.w<=cH): ∀(l:List Nat) {σ:Bi},BiI A N rt al pi σ->ua σ b v m->(∀a∈l,a<A.length/\fsB b (A.getD a default)=v)->
 BiI A N rt al pi (l.foldl (gf A al pi b v) σ)/\KeB b σ (l.foldl (gf A al pi b v) σ)
 | [],_,h,_,_=>⟨h,.refl⟩| a::l,σ,h,r,c=>by obtain⟨g,f⟩:=BY d e h r (c a XK).1 (c a XK).2;obtain⟨i,j⟩:=Cw d e l g (r.ke f) (fun x k=>c x (List.mem_cons_of_mem _ k));exact⟨i,f.trans j⟩
theorem AU{k:Int}(h:BiI A N rt al pi σ)(z:(σ.sd b).K v=some k):BiI A N rt al pi (cL σ b v)/\ ∃m,ua (cL σ b v) b v m/\(σ.sd b).L v=some m/\k=2*(m:Int)+qB pi b v/\v∉(σ.sd b).O:=by
 have c:=h.sv b;obtain⟨B,m,w,o⟩:=c.op v k z;obtain⟨L,M,O,P,Q⟩:=c.lab v m w;have p: ∀i u,((cL σ b v).sd i).L u=(σ.sd i).L u:=fun i u=>by
  show(dG σ.sd b _ i).L u=_;by_cases e:i=b
  . subst e;rw [eS]
  . rw [zg e]
 refine⟨⟨fun i=>?_,?_,fun i u x y f q=>?_⟩,m,⟨?_,by grind,?_,?_⟩,w,o,B⟩
 . show SvB A N (rt i) al pi i (dG σ.sd b _ i);by_cases e:i=b
   . subst e;rw [eS];have C:((σ.sd i).O++[v]).length*cH=(σ.sd i).O.length*cH+cH:=(by grind);refine⟨?_,fun u g=>?_,fun u j n=>?_,fun u l r=>?_,fun u l r=>?_⟩
     . rw [List.nodup_append];exact⟨c.nd,by simp,fun x f y q e=>by grind⟩
     . rcases List.mem_append.1 g with g|g
       . exact c.lt u g
       grind
     . by_cases e:u=v
       . subst e;simp [dp]at n
       . have n:(σ.sd i).K u=some j:=(by simpa [dp,e]using n);obtain⟨s,t⟩:=c.op u j n;grind
     . obtain⟨s,t,D,E,F⟩:=c.lab u l r;refine⟨s,t,by show l<=((σ.sd i).O++[v]).length*cH;omega,by grind,?_⟩;grind[Xh,List.mem_singleton,zO,dp]
     . rcases c.path u l r with G|⟨a,j,s,t,D,E,F⟩
       . exact .inl G
       grind
   . rw [zg e];exact h.sv i
 . rcases h.dm with⟨H,R⟩|d
   . exact .inl ⟨H,fun i u x f=>by grind⟩
   . exact .inr fun i=>by obtain⟨x,y,I,J,K⟩:=d i;exact⟨x,y,by rw [p];exact I,by rw [p];exact J,K⟩
 . rw [p]at f q;exact h.le i u x y f q
 . show v∈(dG σ.sd b _ b).O;rw [eS];grind
 . show m+cH<=(dG σ.sd b _ b).O.length*cH;grind[eS,cH,XD,X7,Nat.succ_mul]
 . show((dG σ.sd b _ b).P v).length+1<=(dG σ.sd b _ b).O.length;grind[eS,XD,X7]
theorem zR:a∈outs A (fsB b) A.length v↔a<A.length/\fsB b (A.getD a default)=v:=mg
theorem stepB_I{k:Int}(c:N<=12)(d: ∀a∈A,a.s<N/\a.t<N/\a.w<=cH)(h:BiI A N rt al pi σ)(e:(σ.sd b).K v=some k):
 BiI A N rt al pi (kE A al pi b v (cL σ b v))/\KeB b (cL σ b v) (kE A al pi b v (cL σ b v)):=by
 obtain⟨f,m,r,_⟩:=AU h e;exact Cw c d _ f r (fun a g=>zR.1 g)
def InB(A:List Arc)(al:Nat->Bool)(pi:Nat->Int)(a:Nat):Prop:=al a=true/\OpB pi (A.getD a default).s/\OpB pi (A.getD a default).t
instance (a:Nat):Decidable (InB A al pi a):=by unfold InB;infer_instance
def hB(A:List Arc)(al:Nat->Bool)(pi:Nat->Int)(b:Bool):List Arc:=((XL A.length).filter fun a=>decide (InB A al pi a)).map fun a=>⟨fsB b (A.getD a default),ftB b (A.getD a default),(A.getD a default).w⟩
end
section
variable{A:List Arc}{N:Nat}{al:Nat->Bool}{pi:Nat->Int}{σ:Bi}{rt:Bool->Nat}
theorem clo_b:(cL σ b v).sd b=⟨dp (σ.sd b).K v none,(σ.sd b).L,(σ.sd b).P,(σ.sd b).O++[v]⟩:=eS
theorem clo_n:(cL σ b v).sd (!b)=σ.sd (!b):=nK
end
def rtB(s t:Nat)(i:Bool):Nat:=if i then t else s
def arcsB(σ:Bi):List Nat:=((σ.sd false).P σ.meet).reverse++(σ.sd true).P σ.meet
section
variable{A:List Arc}{N s t:Nat}{al:Nat->Bool}{pi:Nat->Int}{σ:Bi}
theorem yZ:BiI A N (rtB s t) al pi ⟨fun _=>iJ,[],FAR,0⟩:=
 ⟨fun i=>⟨.nil,fun v c=>(by cases c),fun v k d=>(by cases d),fun v l a=>(by cases a),fun v l a=>(by cases a)⟩,.inl ⟨rfl,fun i v x b=>rfl⟩,fun i v x y b=>(by cases b)⟩
theorem initB_I(a:N<=12)(c:s<N)(d:t<N):BiI A N (rtB s t) al pi (mZ pi s t):=
 (yZ.reach (b:=false) (p:=[]) (lab:=0) a c (Xi _) (Xi _) (.inl ⟨rfl,rfl,rfl⟩)).reach (b:=true) (p:=[]) (lab:=0) a d (Xi _) (Xi _) (.inl ⟨rfl,rfl,rfl⟩)
theorem initB_O(i:Bool):((mZ pi s t).sd i).O=[]:=by
 have a:=uq (pi:=pi) (σ:=⟨fun _=>iJ,[],FAR,0⟩) (b:=false) (v:=s) (lab:=0) (p:=[]);have c:=uq (pi:=pi) (σ:=dk pi false ⟨fun _=>iJ,[],FAR,0⟩ s 0 []) (b:=true) (v:=t) (lab:=0) (p:=[]);cases i
 . have:=c.ot;show((dk pi true _ t 0 []).sd (!true)).O=[];rw [this];exact a.O
 . exact c.O.trans (by rw [show(true:Bool)=(!false)from rfl,a.ot];rfl)
theorem initB_ev:(mZ pi s t).ev=[]:=by grind[dk,rB,mZ]
theorem reachB_ev:(dk pi b σ v lab p).ev=σ.ev:=by grind[dk,rB]
end
theorem BiI.distLe{b:Bool->Nat}(h:BiI A N b al pi σ)(a:N<=12):σ.dist<=FAR:=by
 have g:=gQ;have i:=jP;rcases h.dm with⟨e,_⟩|c
 . omega
 . obtain⟨x,y,d,f,j⟩:=c false;have k:=((h.sv false).lab _ x d).2.2.1;have l:=((h.sv (!false)).lab _ y f).2.2.1;have m:=Xn cH (XA (h.sv false).len a);have n:=Xn cH (XA (h.sv (!false)).len a);omega
theorem SvB.has{x:Sd}(h:SvB A N r al pi i x){l:Nat}(a:x.L v=some l)(c:v∉x.O):x.K v=some (2*(l:Int)+qB pi i v):=by
 have d:=((h.lab v l a).2.2.2.2).resolve_left c;cases b:x.K v with
 |none=>exact absurd b d| some k=>
   obtain⟨_,g,e,f⟩:=h.op v k b;rw [a]at e;cases e;rw [f]
theorem SvB.hasNo{x:Sd}(h:SvB A N r al pi i x)(a:x.L v=none):x.K v=none:=by
 cases b:x.K v with
 |none=>rfl| some k=>
   obtain⟨_,c,e,d⟩:=h.op v k b;rw [a]at e;cases e
theorem tW(f:OZ h0){X:Bool->Sx}{F:Bool->List Nat}(a:fg h0 br pn s t vPi X F vE N σ)
 (g:az h0 1 (encI .i64) vPi pis) (k:pis.length=N\/pis=[]/\vPi=.slice none 0 0) (m: ∀c,aq vPi c->c∉boB br pn s t vPi X F vE σ) (d:N<=12)  {n:Bool->Nat}  (I:BiI A N n al (fun v=>pis.getD v 0) σ)    (o:v<N) (e:lab<=13*cH):
 Ret zM 133 [ptrTo br,ptrTo (X i).b,.int .i64 (v:Nat),.int .i64 (byI p),.int .i64 (lab:Nat)] h0 fun _ h'=>Mo (· ∈boB br pn s t vPi X F vE σ) h0 h'/\ ∃b F',fg h' br pn s t vPi b F' vE N (dk (fun v=>pis.getD v 0) i σ v lab p)/\(∀j,(b j).b=(X j).b/\(b j).vA=(X j).vA/\(b j).vH=(X j).vH)/\ ∀c∈boB br pn s t vPi b F' vE (dk (fun v=>pis.getD v 0) i σ v lab p),c∈boB br pn s t vPi X F vE σ\/h0.n<=c:=
 breach_ok f a g k m d o e (I.distLe d) (fun j u l q=>by
  have w:=((I.sv j).lab u l q).2.2.1;have x:=Xn cH (XA (I.sv j).len d);have y:=jP;omega) (fun l e r=>(I.sv i).has e r) (fun h=>(I.sv i).hasNo h)
theorem note_look{ρ:Operand->Value}{a:Bool}{t:TypeId}{m k:Operand}{h':Hp}:cQ ρ b (.lookup t m k a) h h'=(match ρ m with| .map (some r)=>some (.blk r)|_=>none):=by simp only [cQ,dN,jR,fJ,touch,cond_false];cases ρ m<;>first|rfl|(rename_i x;cases x<;>rfl)
theorem xh{A:List Arc}{al:Nat->Bool}{pi:Nat->Int}{b:Bool}{v:Nat}: ∀(l:List Nat) {σ:Bi},(l.foldl (gf A al pi b v) σ).ev.length<=σ.ev.length+l.length
 | [],_=>XT _| a::l,σ=>by
   have h:=xh (A:=A) (al:=al) (pi:=pi) (b:=b) (v:=v) l (σ:=gf A al pi b v σ a);have c:(gf A al pi b v σ a).ev.length<=σ.ev.length+1:=by
    unfold gf
    split
    . rw [reachB_ev];simp [evB]
    . omega
   rw [List.foldl_cons,List.length_cons];omega
theorem uj: ∀e:Ev2,(jr e).length=4:=fun _=>rfl
def outF(i:Bool):FuncId:=if i then 131 else 129
theorem outF_ok(d:OZ h0){p:Value}{a:Gra}{f:Nat}(c:aS h0 f p a)(b:a.arcs.length<1000)(e:v<a.nodes):Ret zM (outF i) [p,.int .i64 v] h0 fun r h'=>Gr h0 h'/\az h' 1 bK r (outs a.arcs (fsB i) a.arcs.length v)/\ ∀c,aq r c->h0.n<=c:=by
 cases i
 . exact uw d c b e
 . exact wS d c b e
theorem fg.lt{h:Hp}(b:OZ h){br:Nat}{pn:Value}{s t:Nat}{vPi:Value}{X:Bool->Sx}{F:Bool->List Nat}{vE:Value}{N:Nat}{σ:Bi}(a:fg h br pn s t vPi X F vE N σ): ∀c∈boB br pn s t vPi X F vE σ,c<h.n:=fun c d=>
 (List.mem_append.1 d).elim (fun h=>(a.st b false).key_lt h) (fun h=>(List.mem_append.1 h).elim (fun h=>(a.heap false).lt b c h) (fun h=>(a.heap true).lt b c h))
theorem bo_fin{h':Hp}{X:Bool->Sx}{F:Bool->List Nat}(a:fg h0 br pn s t vPi X F vE N σ){x2:Sx}(e:x2.b=(X i).b/\x2.vA=(X i).vA/\x2.vH=(X i).vH){τ:Bi}{y:Sd}(k:τ.sd=dG σ.sd i y){vE2:Value}{F6:List Nat}
 (S:St (· ∈boB br pn s t vPi X F vE σ) h0 h' ((br,.row (ib pn s t vPi X vE2 τ) 1)::(x2.L i++(X (!i)).L (!i))) (boG vE2 τ)) (z:cE h' F6 (ptrTo x2.p) N y.K) (v:cE h' (F (!i)) (ptrTo (X (!i)).p) N (σ.sd (!i)).K) (w:x2.Ok y)
 (x: ∀c∈F6,c∈F i\/h0.n<=c) (l: ∀c∈F6,c∉keys ((br,Ob.row (ib pn s t vPi X vE2 τ) 1)::(x2.L i++(X (!i)).L (!i))) (boG vE2 τ)/\c∉F (!i)) (n: ∀c∈F (!i),c∉keys ((br,Ob.row (ib pn s t vPi X vE2 τ) 1)::(x2.L i++(X (!i)).L (!i))) (boG vE2 τ)):
 ∃f F',fg h' br pn s t vPi f F' vE2 N τ/\(∀j,(f j).b=(X j).b/\(f j).vA=(X j).vA/\(f j).vH=(X j).vH)/\ ∀c∈boB br pn s t vPi f F' vE2 τ,c∈boB br pn s t vPi X F vE σ\/h0.n<=c:=by
 have g: ∀j:Bool,j≠i->j= !i:=fun j h=>tv h;have o:(!i)≠i:=not_ne
 let f:Bool->Sx:=fun j=>if j=i then x2 else X j
 let F':Bool->List Nat:=fun j=>if j=i then F6 else F j
 have p:f i=x2:=if_pos rfl;have q:f (!i)=X (!i):=if_neg o;have r:F' i=F6:=if_pos rfl;have u:F' (!i)=F (!i):=if_neg o;have m: ∀j,(f j).b=(X j).b/\(f j).vA=(X j).vA/\(f j).vH=(X j).vH:=fun j=>by
  by_cases d:j=i
  . subst d;rw [p];exact e
  . rw [g j d,q];exact⟨rfl,rfl,rfl⟩
 have A:boL i br pn s t vPi f vE2 τ=(br,.row (ib pn s t vPi X vE2 τ) 1)::(x2.L i++(X (!i)).L (!i)):=by simp only [boL,ib,p,q,(m false).1,(m true).1]
 rw [<-A]at S l n;refine⟨f,F',fg.of i S (fun j=>?_) (fun j=>?_) (fun j c b=>?_),m,fun c b=>?_⟩
 . by_cases d:j=i
   . subst d;rw [r,p,k,eS];exact z
   . rw [g j d,u,q,k,nK];exact v
 . by_cases d:j=i
   . subst d;rw [p,k,eS];exact w
   . rw [g j d,q,k,nK];exact a.ok _
 . by_cases d:j=i
   . subst d;rw [r]at b;rw [u];exact l c b
   . rw [g j d]at b⊢;rw [u]at b;rw [XS,r];exact⟨n c b,fun B=>(l c B).2 b⟩
 . have hB: ∀j,∀c∈F' j,c∈boB br pn s t vPi X F vE σ\/h0.n<=c:=fun j c b=>by
    by_cases d:j=i
    . subst d;rw [r]at b;exact(x c b).elim (fun h=>.inl (qW h)) .inr
    . rw [g j d,u]at b;exact .inl (qW b)
   rcases List.mem_append.1 b with b|b
   . refine(S.key_own ?_).symm;unfold keys at b⊢;rcases List.mem_append.1 b with h|h
     . exact zO _ (((oV i).map _).mem_iff.2 h)
     . exact Xh _ h
   . rcases List.mem_append.1 b with b|b
     . exact hB _ c b
     . exact hB _ c b
theorem bstep_ok {hq:Hp} (gq:Gr hq h0) {B nb:Nat}    {X:Bool->Sx} {F:Bool->List Nat}    (E:Good f) (hn:aS hq nb (ptrTo B) f) (a:fg h0 br (ptrTo B) s t vPi X F vE f.nodes σ) (hB: ∀c∈boB br (ptrTo B) s t vPi X F vE σ,hq.n<=c)
 (sP:az hq 1 (encI .i64) vPi pis) (lP:pis.length=f.nodes\/pis=[]/\vPi=.slice none 0 0) {rt:Bool->Nat} (I:BiI f.arcs f.nodes rt (fun _=>true) (fun v=>pis.getD v 0) σ) (cT:σ.ev.length<=100000)   {k:Int} (hp:nj (σ.sd i).K v k) (hA:(X i).vA=.func (.func (outF i)) #[ptrTo B] #[]) (hH:(X i).vH=.func (.func (mV i)) #[] #[]):
 Ret zM 135 [ptrTo br,ptrTo (X i).b] h0 fun _ h'=>Mo (· ∈boB br (ptrTo B) s t vPi X F vE σ) h0 h'/\ ∃X' F' C,fg h' br (ptrTo B) s t vPi X' F' C f.nodes (kE f.arcs (fun _=>true) (fun v=>pis.getD v 0) i v (cL σ i v))/\(∀j,(X' j).b=(X j).b/\(X' j).vA=(X j).vA/\(X' j).vH=(X j).vH)/\ ∀c∈boB br (ptrTo B) s t vPi X' F' C (kE f.arcs (fun _=>true) (fun v=>pis.getD v 0) i v (cL σ i v)),c∈boB br (ptrTo B) s t vPi X F vE σ\/h0.n<=c:=by
 have ok:=gq.ok;have n2:=E.n2;have S:=a.st ok i;have Ho:=a.ok i;have H:=a.heap i;have Hx:=a.heap (!i);have hk:=fun j c (d:c∈F j)=>a.apart' i d;have bc: ∀j,∀c∈F j,c∈boB br (ptrTo B) s t vPi X F vE σ\/h0.n<=c:=fun j c d=>.inl (qW d);generalize ax:boB br (ptrTo B) s t vPi X F vE σ=BB at S bc;rcases hX:X i with⟨xb,xp,xl,xa,xc,vA,vH,el,cl,ea,ca,ec,cc⟩;rcases hY:X (!i)with⟨yb,yp,yl,ya,yc,wA,wH,fl,dl,fa,da,fc,dc⟩;rw [hX]at Ho H hA hH;rw [hY]at Hx;obtain⟨gl,ML,bd⟩:=Ho.ml;obtain⟨gc,MC,be⟩:=Ho.mc;simp only []at ML MC hA hH;subst hA hH;simp only [LC,boL,boG,ib,Sx.L,Sx.row,hX,hY]at S hk;have cW:=fun c d=>S.key_lt (b:=c) d;obtain⟨b2,l,ay,cX⟩:=(I.sv i).op v k hp.1;have b3:=((I.sv i).lab v l ay).1;refine aa (n:=125) (rs:=[]) rfl Tryz.e135 rfl rfl rfl (lbt rfl) ?_;simp only [BZ,S.ld (b:=xb) (o:=0) m1 rfl,seval];refine step_ret (tS S.ok H (by omega)) ?_;rintro rv h2 (⟨_,aL,_⟩|⟨v',k',rfl,b4,bf,f2,H2⟩)
 . exact absurd ((aL v).symm.trans hp.1) (by nofun)
 . obtain ⟨rfl,rfl⟩:=hp.uniq (⟨b4,bf⟩:nj (σ.sd i).K v' k');replace S:=S.stepF f2 (fun c d=>⟨bc i c d,hk i c d⟩);have bh:=Hx.mo f2 (fun c d g=>(a.apart (!i) c d).2 (by rw [XS];exact g));have S2:=S;have b5:=H2.lt S2.ok;have b6:=bh.lt S2.ok;replace S:=S.base;have bi:=li (x:=(v:Int)) Tryz.t230.1 Tryz.t3.1 (z:=.int .i64 0) (by kernel_rfl) (show h2.get xc=some (.map ec cc)from(S.own _ m4).2) MC;rw [be,if_neg b2,Xw]at bi;have w1:an .i64 ((0:Int)+1)=1:=rfl;simp only [BZ,bi,S.ld (b:=xb) (o:=7) m1 rfl,seval];refine aC (S.mputI (i:=4) rfl Tryz.t230.1 Tryz.t3.1 MC _) ?_;clear S;rintro h3 ⟨cY,b7,b8,cb,S⟩;simp only [LC]at S;have bk:=li (x:=(v:Int)) Tryz.t272.1 Tryz.t3.1 (z:=.int .i64 0) (by kernel_rfl) (show h3.get xl=some (.map el cl)from(S.own _ m2).2) ML;rw [bd,ay,XE,Xj]at bk;have c1:Fl vE:=(S.gown _ m0).1.fl;simp only [BZ];refine ao (av rfl) (q:=262144) (ps:=[]) (by kernel_rfl) ?_;simp only [BZ,cls,bk,S.ld (b:=br) (o:=9) m0 rfl,S.ld (b:=xb) (o:=1) m1 rfl,S.ld (b:=xb) (o:=5) m1 rfl,seval];refine df (ce (by exact Tryz.t44.1) (by exact X8) (by decide) (by rfl)) S ?_;clear S;intro h bs S bl bm;simp only [LC,bH,cg,ae,Xq,Xl,Xo,Xx,seval]at S;simp only [BZ,cls,seval];have J:aK h 4 (.slice (some ⟨bs,0,none⟩) 1 1)=some (1,jr ⟨0,i,v,l⟩):=(by simp only [aK];rw [S.lds (b:=bs) (o:=0) (n:=1*4) m0 (lbt rfl)];rfl);replace S:=S.drop1;refine mj (S.grow (j:=0) (m:=1) (new:=jr ⟨0,i,v,l⟩) rfl Tryz.t44.1 X8 (by decide) Tryz.t44.2.2.2.2.2 J rfl (by decide) rfl (by rw [cB uj];show(_+4)*_<=_;omega)) ?_;clear S J;rintro h4 C S;simp only [LC]at S;have bn:Fl C:=(S.gown _ m0).1.fl;simp only [BZ,cls,seval];refine cM (aE S (i:=0) rfl Tryz.t44.2.2.1 bn (Xg (lbt rfl)) ono) ?_;clear S;rintro h5 ⟨S,c2⟩;simp only [LC]at S;have T:=S2.rebase S;have K:labB σ i v=l:=(by unfold labB;rw [ay];rfl);have bo:=bo_fin a (i:=i) (x2:=⟨xb,xp,xl,xa,xc,.func (.func (outF i)) #[ptrTo B] #[],.func (.func (mV i)) #[] #[],el,cl,ea,ca,b7,b8⟩) (by rw [hX];exact⟨rfl,rfl,rfl⟩) (τ:=cL σ i v) (y:=⟨dp (σ.sd i).K v none,(σ.sd i).L,(σ.sd i).P,(σ.sd i).O++[v]⟩) rfl (vE2:=C) (F6:=F i) (h':=h5) (by
    rw [ax];simp only [ib,Sx.L,Sx.row,hY,Xv,Xy,boG,cL,K,Xt,Xz,XC,Xa];exact T) (H2.mo S.fr (fun c d=>hk i c d)) (by rw [hY];exact bh.mo S.fr (fun c d=>hk _ c d)) (⟨⟨gl,ML,bd⟩,Ho.ma,⟨_,cb,fun u=>by
    simp only [dS];by_cases hu:u=v
    . subst hu;simp;rfl
    . rw [if_neg (by omega),be u];simp [hu]⟩⟩) (fun c d=>.inl d) (fun c d=>⟨fun g=>by
    simp only [ib,Sx.L,Sx.row,hY,Xv,Xy,boG,cL,K,Xt,Xz,XC,Xa]at g;exact(S.key_own g).elim (fun h=>by have:=b5 c d;omega) (fun h=>hk i c d h),(a.apart i c d).2⟩) (fun c d g=>by
    simp only [ib,Sx.L,Sx.row,hY,Xv,Xy,boG,cL,K,Xt,Xz,XC,Xa]at g;exact(S.key_own g).elim (fun h=>by have:=b6 c d;omega) (fun h=>hk _ c d h))
   obtain⟨X2,F2,A2,e2,bq⟩:=bo;have a0: ∀c∈BB,hq.n<=c:=fun c d=>hB c (by rw [ax];exact d);have cf:Gr hq h5:=gq.mo' T.fr a0;obtain⟨I5,m5,R5,c3,_,_⟩:=AU I hp.1;simp only [BZ,S.ld (b:=xb) (o:=3) m1 rfl,seval];refine step_ret (outF_ok (i:=i) S.ok (hn.gr cf) (by have:=E.many;omega) b3) ?_;rintro vL h6 ⟨g6,W,nL⟩;have f6:Mo (· ∈BB) h0 h6:=T.fr.trans (g6.fr (M:=NoM)) (fun _ h=>h.elim);have A6:=A2.gr g6;have n6:h5.n<=h6.n:=g6.n;have ch: ∀c∈boB br (ptrTo B) s t vPi X2 F2 C (cL σ i v),c<h5.n:=A2.lt S.ok;generalize hL:outs f.arcs (fsB i) f.arcs.length v=L at W;have cj: ∀e∈L,e<f.arcs.length/\fsB i (f.arcs.getD e default)=v:=fun e he=>(by rw [<-hL]at he;exact zR.1 he);have c4:L.length<=f.arcs.length:=(by rw [<-hL];exact kI _ _ _ _);have a4:kE f.arcs (fun _=>true) (fun v=>pis.getD v 0) i v (cL σ i v)=L.foldl (gf f.arcs (fun _=>true) (fun v=>pis.getD v 0) i v) (cL σ i v):=(by unfold kE;rw [hL]);rw [a4];have c5:(X2 i).b=xb:=(by rw [(e2 i).1,hX]);simp only [BZ,W.lenq,seval];refine aW (fun(j:Nat) ρ h=>j<=L.length/\ ∃N F3 G,fg h br (ptrTo B) s t vPi N F3 G f.nodes ((L.take j).foldl (gf f.arcs (fun _=>true) (fun v=>pis.getD v 0) i v) (cL σ i v))/\BiI f.arcs f.nodes rt (fun _=>true) (fun v=>pis.getD v 0) ((L.take j).foldl (gf f.arcs (fun _=>true) (fun v=>pis.getD v 0) i v) (cL σ i v))/\ua ((L.take j).foldl (gf f.arcs (fun _=>true) (fun v=>pis.getD v 0) i v) (cL σ i v)) i v m5/\(∀j,(N j).b=(X j).b/\(N j).vA=(X j).vA/\(N j).vH=(X j).vH)/\Mo (· ∈BB) h0 h/\(∀c∈boB br (ptrTo B) s t vPi N F3 G ((L.take j).foldl (gf f.arcs (fun _=>true) (fun v=>pis.getD v 0) i v) (cL σ i v)),(c∈BB\/h0.n<=c)/\ ¬aq vL c)/\az h 1 bK vL L/\ρ 0=ptrTo br/\ρ 1=ptrTo xb/\ρ 4=.int .i64 (v:Nat)/\ρ 55=vL/\ρ 56=.int .i64 (L.length:Nat)/\ρ 57=.int .i64 j) (fun j=>L.length-j) ?_ 0 _ _ ?_
   . clear S A6 W;intro j ih ρ h ⟨hj,N,F3,G,A3,I3,R3,e3,f3,sub3,W,r0,r1,r4,r55,r56,r57⟩;have w:an .i64 ((j:Int)+1)=((j+1:Nat):Int):=(by have:=E.many;rw [wrap64]<;>omega);by_cases hlt:j<L.length
     . obtain⟨c0,o0,x0,y0⟩:=W.ix (kd:=.i64) dC hlt;obtain⟨O,ai⟩:=cj _ (XB hlt);have bt:L.take (j+1)=L.take j++[L[j]]:=XO hlt;generalize L[j]=e at y0 O ai bt;replace y0:h.load c0 o0 1=some [.int .i64 (e:Nat)]:=y0;generalize bu:(L.take j).foldl (gf f.arcs (fun _=>true) (fun v=>pis.getD v 0) i v) (cL σ i v)=τ at A3 I3 R3 sub3;have P:=f3.ok;have S:=A3.st P i;have bv:=A3.ok i;have H3:=A3.heap i;have a5:=A3.heap (!i);have Q:=fun j c (d:c∈F3 j)=>A3.apart' i d;have Y:=e3 i;rw [hX]at Y;generalize R:boB br (ptrTo B) s t vPi N F3 G τ=c6 at S sub3;rcases hX3:N i with⟨U,c9,Z,db,dd,de,dj,a6,a7,dm,dn,ds,dt⟩;rcases hY3:N (!i)with⟨dv,dx,dy,dF,dO,d0,d1,d2,d3,d4,d5,d7,d8⟩;rw [hX3]at bv H3 Y;rw [hY3]at a5;simp only []at Y;obtain⟨rfl,rfl,rfl⟩:=Y;simp only [LC,boL,boG,ib,Sx.L,Sx.row,hX3,hY3]at S Q;simp only [BZ,Xc,r0,r55,r56,r57,aF,hlt,x0,y0,S.ld (b:=br) (o:=3) m0 rfl,seval];have cz:Fl G:=(S.gown _ m0).1.fl;have S2:=S;have ck:=H3.lt P;have bx:=a5.lt P;replace S:=S.base;refine ao (av rfl) (q:=4096) (ps:=[]) (by kernel_rfl) ?_;simp only [BZ,cls,r0,r1,S.ld (b:=br) (o:=9) m0 rfl,S.ld (b:=U) (o:=1) m1 rfl,seval];refine df (ce (by exact Tryz.t44.1) (by exact X8) (by decide) (by rfl)) S ?_;clear S;intro h bs S bl bm;simp only [LC,bH,cg,ae,Xq,Xl,Xo,Xx,seval]at S;simp only [BZ,cls,seval];have J:aK h 4 (.slice (some ⟨bs,0,none⟩) 1 1)=some (1,jr ⟨1,i,e,0⟩):=(by simp only [aK];rw [S.lds (b:=bs) (o:=0) (n:=1*4) m0 (lbt rfl)];rfl);replace S:=S.drop1;have cA:τ.ev.length<=1000000:=by have D:=xh (A:=f.arcs) (al:=fun _=>true) (pi:=fun v=>pis.getD v 0) (b:=i) (v:=v) (L.take j) (σ:=cL σ i v);rw [bu,List.length_take]at D;have h2:(cL σ i v).ev.length=σ.ev.length+1:=(by simp [cL]);have:=E.many;omega
       refine mj (S.grow (j:=0) (m:=1) (new:=jr ⟨1,i,e,0⟩) rfl Tryz.t44.1 X8 (by decide) Tryz.t44.2.2.2.2.2 J rfl (by decide) rfl (by rw [cB uj];show(_+4)*_<=_;omega)) ?_;clear S J;rintro h8 V S;simp only [LC]at S;have bB:Fl V:=(S.gown _ m0).1.fl;simp only [BZ,cls,seval];refine cM (aE S (i:=0) rfl Tryz.t44.2.2.1 bB (Xg (lbt rfl)) ono) ?_;clear S;rintro h9 ⟨S,eb⟩;simp only [LC]at S;have T:=S2.rebase S;have cm:(evB τ ⟨1,i,e,0⟩).sd=dG τ.sd i (τ.sd i):=by
        funext j;unfold dG;by_cases hj:j=i
        . rw [if_pos hj,hj];rfl
        . rw [if_neg hj];rfl
       have bo:=bo_fin A3 (i:=i) (x2:=N i) ⟨rfl,rfl,rfl⟩ (τ:=evB τ ⟨1,i,e,0⟩) cm (vE2:=V) (F6:=F3 i) (h':=h9) (by
        rw [R];simp only [ib,Sx.L,Sx.row,hX3,hY3,Xv,Xy,boG,evB,Xt,Xz,XC,Xa];exact T) (by rw [hX3];exact H3.mo S.fr (fun c d=>Q i c d)) (by rw [hY3];exact a5.mo S.fr (fun c d=>Q _ c d)) (A3.ok i) (fun c d=>.inl d) (fun c d=>⟨fun g=>by
        simp only [ib,Sx.L,Sx.row,hX3,hY3,Xv,Xy,boG,evB,Xt,Xz,XC,Xa]at g;exact(S.key_own g).elim (fun h=>by have:=ck c d;omega) (fun h=>Q i c d h),(A3.apart i c d).2⟩) (fun c d g=>by
        simp only [ib,Sx.L,Sx.row,hX3,hY3,Xv,Xy,boG,evB,Xt,Xz,XC,Xa]at g;exact(S.key_own g).elim (fun h=>by have:=bx c d;omega) (fun h=>Q _ c d h))
       obtain⟨X4,F4,A4,e4,ak⟩:=bo;have f9:Mo (· ∈BB) h0 h9:=f3.trans T.fr (fun c d=>(sub3 c d).1);have bE:=gq.mo' f9 a0;have cn:(X4 i).b=U:=(by rw [(e4 i).1,hX3]);simp only [BZ,r0,S.ld (b:=br) (o:=0) m0 rfl,seval];refine step_ret (ku S.ok (hn.gr bE) O) ?_;rintro r hA ⟨gA,rfl⟩;have a8:=gA.ok;have bL:f.arcs.getD e default=f.arcs[e]:=(by simp [Xd,O]);obtain⟨a1,a2,a3⟩:=E.arcs _ (XB O);generalize f.arcs[e]=x at bL a1 a2 a3;have AA:=A4.gr gA;replace S:=S.call gA;have l4:=S.ld (b:=U) (o:=4) m1 rfl;have l5:=S.ld (b:=U) (o:=5) m1 rfl;have gx:=S.gown;have SA:=S;clear S;have S:=Si a8;simp only [BZ,c7,seval];refine ac aA S ?_;clear S;intro h b9 S cN;simp only [BZ,seval];refine aC (S.store (i:=0) rfl ?_ ?_ rfl rfl ?_ ono) ?_
       . exact(by exact Tryz.t96.2.1)
       . exact(by intro x e;cases e)
       . exact lbt rfl
       clear S;rintro h ⟨S,mo⟩;clear mo;simp only [LC,ae,lay,XI,XJ,seval]at S;have cp:=S.old l4 (fun h=>h);have ed:=S.old l5 (fun h=>h);simp only [BZ,seval];refine ao (av rfl) (q:=0) (ps:=[(7,16),(7,14),(7,12)]) (by kernel_rfl) ?_;simp only [BZ,cls,r0,r1,cp,S.lds (b:=b9) (o:=0) (n:=3) m0 (lbt rfl),seval];have k9:=(S.row (b:=b9) m0).lt S.ok;refine bz (Bo (a:=x) S.ok) ?_;intro cr ad;have z4:=bA a8 l4;have nA:=S.gr.n;have p1:=am ad (show U<_ by omega);have p2:=am ad k9;have p3:=am ad (show Z<_ from XF (iu a8 (show hA.get Z=some (.map a6 a7)from(SA.own _ m2).2)) nA);replace S:=S.call ad;have bP:=S.old l5 (fun h=>h);have bT:cr.get Z=some (.map a6 a7):=S.gr.at (show hA.get Z=some (.map a6 a7)from(SA.own _ m2).2);obtain⟨ee,cs,ba⟩:=bv.ml;have bX:=li (x:=(v:Int)) Tryz.t272.1 Tryz.t3.1 (z:=.int .i64 0) (by kernel_rfl) bT cs;rw [ba v,R3.2.1,XE,Xj]at bX;have ei:=R3.2.2.1;have cO:=Xn cH (XA (I3.sv i).len n2);have ej:=jP;have bY:an .i64 ((m5:Int)+(x.w:Int))=((m5+x.w:Nat):Int):=(by rw [wrap64]<;>omega);simp only [BZ,cls,r1,r4,bP,bX,bY,S.ld (b:=b9) (o:=2) m0 rfl,seval];have ek:=f3.n;have em:=gq.n;have bb: ∀c∈boB br (ptrTo B) s t vPi X4 F4 V (evB τ ⟨1,i,e,0⟩),hq.n<=c/\(c∈BB\/h0.n<=c):=fun c d=>by
        rcases ak c d with D|D
        . rw [R]at D;have h2:=(sub3 c D).1;exact⟨h2.elim (a0 c) (fun h=>by omega),h2⟩
        . exact⟨by omega,.inr (by omega)⟩
       have af:=gA.trans S.gr;have n9:=T.fr.n;have en:=af.n;have b0: ∀c∈boB br (ptrTo B) s t vPi X4 F4 V (evB τ ⟨1,i,e,0⟩),¬aq vL c:=fun c d hb=>by
        rcases ak c d with D|D
        . rw [R]at D;exact(sub3 c D).2 hb
        . have:=W.blt P hb;omega
       have cv:=bE.trans af;have cx:ftB i x<f.nodes:=(by unfold ftB;split<;>assumption);have rc:=tW S.ok (AA.gr S.gr) (sP.gr cv) lP (fun c d g=>by have D:=sP.blt gq.ok0 d;have h2:=(bb c g).1;omega) n2 (evB_I I3) (i:=i) (v:=ftB i x) (lab:=m5+x.w) (p:=e::(τ.sd i).P v) cx (by omega);rw [cn]at rc;refine bU rc ?_;rintro r hC ⟨fC,X5,F5,A5,e5,b1⟩;simp only [BZ,r57,w,seval];refine⟨by simp only [aJ,aR,aH,aT,aI,ne_eq,not_false_eq_true,aY,bC,aQ,aN,bF,bW,aD,Xs,r0,r1,r4,r55,r56,r57,ah,note_look,ar p1,au p1,ar p2,au p2,ar p3,au p3,seval],?_⟩;have es:gf f.arcs (fun _=>true) (fun v=>pis.getD v 0) i v τ e=dk (fun v=>pis.getD v 0) i (evB τ ⟨1,i,e,0⟩) (ftB i x) (m5+x.w) (e::(τ.sd i).P v):=(by have:labB τ i v=m5:=(by unfold labB;rw [R3.2.1];rfl);unfold gf;rw [if_pos rfl,bL,this]);have ef:(L.take (j+1)).foldl (gf f.arcs (fun _=>true) (fun v=>pis.getD v 0) i v) (cL σ i v)=gf f.arcs (fun _=>true) (fun v=>pis.getD v 0) i v τ e:=(by rw [bt,List.foldl_append,bu];rfl);obtain⟨I6,K6⟩:=BY n2 (fun a ha=>E.arcs a ha) I3 R3 O ai;refine ih (j+1) _ _ (by omega) ⟨by omega,X5,F5,V,by rw [ef,es];exact A5,by rw [ef];exact I6,by rw [ef];exact R3.ke K6,fun q=>⟨(e5 q).1.trans ((e4 q).1.trans (e3 q).1),(e5 q).2.1.trans ((e4 q).2.1.trans (e3 q).2.1),(e5 q).2.2.trans ((e4 q).2.2.trans (e3 q).2.2)⟩,?_,?_,?_,by simp [aB,r0,ah,r1,r4,r55,r56]⟩
       . exact(f9.trans (af.fr (M:=NoM)) (fun _ h=>h.elim)).trans fC (fun c d=>(bb c d).2)
       . intro c d;rw [ef,es]at d;rcases b1 c d with D|D
         . exact⟨(bb c D).2,b0 c D⟩
         . refine⟨.inr (by omega),fun hb=>?_⟩;have:=W.blt P hb;omega
       . exact((W.mo T.fr (fun c d g=>(sub3 c g).2 d)).gr af).mo fC (fun c d g=>b0 c g d)
     . have:j=L.length:=(by omega);subst this;rw [List.take_length]at A3 sub3;simp only [BZ,r56,r57,aF,hlt,seval];exact⟨f3,N,F3,G,A3,e3,fun c d=>(sub3 c d).1⟩
   . exact⟨Xi _,X2,F2,C,A6,I5,R5,e2,f6,fun c d=>⟨by rw [<-ax];exact bq c d,fun hb=>by have D:=nL c hb;have h2:=ch c d;omega⟩,W,by simp [aB,dh,ah]⟩
section
variable{A:List Arc}{N r:Nat}{al:Nat->Bool}{pi:Nat->Int}{i:Bool}{x:Sd}
theorem SvB.ids(h:SvB A N r al pi i x): ∀(n:Nat) {v:Nat},(x.P v).length<=n->(x.L v).isSome=true-> ∀e∈x.P v,e<A.length:=by
 intro n
 induction n with
 | zero=>
   intro v c _ e b;rw [List.length_eq_zero_iff.1 (Nat.le_zero.1 c)]at b;cases b
 | succ n f=>
   intro v c d e b;obtain⟨l,d⟩:=Option.isSome_iff_exists.1 d;rcases h.path v l d with⟨_,g,_⟩|⟨a,m,j,_,_,_,k,o,_⟩
   . rw [g]at b;cases b
   . rw [k]at c b;rcases List.mem_cons.1 b with rfl|b
     . exact j
     . exact f (by rw [List.length_cons]at c;omega) (by rw [o];rfl) e b
end
end Go.Ab

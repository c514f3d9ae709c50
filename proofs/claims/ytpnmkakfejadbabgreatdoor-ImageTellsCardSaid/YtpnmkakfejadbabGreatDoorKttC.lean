/- Nets, cells, flags: what the functions do (part 3). -/
import Derived.Test.YtpnmkakfejadbabGreatDoorKttB
import Derived.ChangeSlices
import Derived.ChangeArms
import Derived.ChangeSame
import Derived.OpenShut
open Go.Ab.Tryz
open Go.Ab.Tryz renaming abEnv->zB,e3E->XP,e23E->Yr,e50E->Yz,e2E->YK
open List renaming range->zM,getD_eq_getElem?_getD->zO,take->Xa,drop->Xb,flatMap_cons->Xc,flatMap_nil->Xf,take_succ_cons->Xg,length_append->Xi,drop_zero->Xj,take_of_length_le->Xm,take_zero->Xn,map_cons->Xr,getElem_mem->Xs,take_succ_eq_append_getElem->Xv,map_append->Xx,length_take->Xy,append_assoc->Xz,flatMap_append->XD,all_cons->XE,all_nil->XH,mem_append_right->XJ,range_succ->XL,map_nil->XM,map_congr_left->XO,getElem?_eq_getElem->XQ,filterMap_nil->XR,getElem?_append_right->XS,getElem_cons_zero->XT,getElem?_cons_succ->XV,not_mem_nil->XY,mem_cons_self->X2,length_nil->X3,drop_succ_cons->X8,getElem?_cons_zero->X9,mem_cons->Yb,getElem_range->Yc,set_cons_zero->Yd,set_append_right->Yg,getElem?_eq_none->Yh,mem_of_getElem?->Yi,getElem_map->Yj,range_eq_range'->Yk,getElem?_set_ne->Yl,length_set->Yp,getElem?_map->Yt,getElem_cons_succ->Yu,getElem?_set_self->Yv,length_cons->Yx,map_toArray->Yy,mem_append_left->YA,append_nil->YB,getElem?_range->YC,drop_drop->YD,set_cons_succ->YE,drop_eq_getElem_cons->YF,mem_or_eq_of_mem_set->YG,ext_getElem->YH,take_length->YI,length_drop->YJ,perm_middle->YL,nil_sublist->YN,length_zip->YP,range'->YT,sublist_cons_self->YU,take_append_drop->YW,flatMap_eq_foldl->YY
open Nat renaming zero_le->Xd,lt_of_succ_le->Xe,mul_one->Xk,zero_add->Xl,zero_mul->Xo,one_mul->Xq,lt_of_lt_of_le->Xt,le_trans->Xu,le_refl->XA,lt_or_eq_of_le->XF,succ_le_succ->XI,le_of_lt_succ->XK,lt_succ_self->XN,not_lt_zero->XU,mul_le_mul->XW,mul_le_mul_left->XX,mul_le_mul_right->X4,mul_add->X5,mul_comm->X6,zero_lt_succ->X7,mod_lt->Ye,mod_two_eq_zero_or_one->Ym,add_zero->Yq,zero_testBit->Yw,le_mul_of_pos_right->YO,min_eq_left->YR,testBit_shiftRight->YS,ble_eq_true_of_le->YX,eq_of_testBit_eq->YZ,add_assoc->Y0,beq_refl->Y1,ne_of_lt->Y2,le_of_eq->Y3,add_mul->Y4
open Bool renaming and_true->Xh,false_eq_true->Xw
open Int renaming tmod_eq_emod_of_nonneg->Xp,cast_ofNat_Int->XB,natCast_emod->XZ,eq_ofNat_of_zero_le->Ya,tdiv_eq_ediv_of_nonneg->Yn,natCast_mul->Yo,toNat_natCast->Ys
open Option renaming map_some->XC,map_none->XG,getD_some->YM
open Prod renaming snd->Yf
open Iff renaming rfl->YV
set_option maxHeartbeats 4000000
set_option linter.defProp false
set_option linter.unusedVariables false
set_option linter.unusedSimpArgs false
namespace Go.Ab
variable{M:Nat->Prop}
variable{d:List Deferred}
variable{A D h h' h0 hq:Hp}
variable{L:List (Nat×Ob)}
variable{G:List GL}
variable{E:Env}
variable{K N a b base c i j k len m n nb rows w:Nat}
variable{f s:Bs}
variable{B β:Nat->Nat}
variable{H e g p u v vM vN vO y z:Value}
variable{q:Operand}
variable{P:Program}
variable{J:(Nat->Value)->Hp->Prop}
variable{Q R row:Nat->List Int}
variable{vs:List Value}
variable{I:Img}
variable{O ks ms:List Int}
variable{T:Option Tab}
variable{cx:Cx}
variable{rc:Option (Value×Bool)}
variable{ρ:Nat->Value}
variable{xs:List Sec}
variable{os:List Oper}
variable{C:Bool}
variable{W:World}
open Go.Proofs
set_option maxRecDepth 10000
theorem St.copyT{d:Hp}(S:St M d h L G){t e:TypeId}{cap:Nat}{l:Option Nat}{cs:List Value}{m:Bs}(c:L[i]? =some (b,.row cs 1))(f:E.und t=some (.slice e))(hs:E.sz e=some 1)(a:m.length=len)(g:cs.length=len){ts:List TypeId}:
 ∃h' w,copyV E h (t::ts) (.slice (some ⟨b,0,l⟩) len cap) (sv m)=some (h',w)/\w=.int .i64 (len:Nat)/\St M d h' (L.set i (b,.row (bI m) 1)) G:=by
 cases m with
 | nil=>have:len=0:=a.symm;subst this;have:cs=[]:=List.length_eq_zero_iff.1 g;subst this;refine⟨h,_,?_,rfl,by rw [show(b,Ob.row (bI []) 1)=(b,Ob.row [] 1)from rfl,set_self c];exact S⟩;simp only [sv,copyV,f,hs,mO,gf];rfl| cons x m=>
   obtain⟨y,j,k⟩:=(S.row (Yi c)).store S.ok ono (o:=0) (vs:=bI (x::m)) (by simp [bI];simp at a;omega) (by simp [bI,jx]);have n:lay cs 0 (bI (x::m))=bI (x::m):=lay_all (by rw [g,<-a];simp [bI]);rw [n]at k;refine⟨h.put b y,_,?_,rfl,S.put c k⟩;have p:eK (x::m).length len=len:=(by rw [a];exact kw (XA _));simp only [sv,copyV,f,hs,mO,gf,p];have q:((x::m).map fun b=>Value.int .u8 (.ofNat b.toNat)).take len=bI (x::m):=Xm (by simp;simp at a;omega);rw [q];simp only [bI,Xr]at j⊢;simp only [Y1,cond_true,j];rfl
def byN(s:Bs)(j:Nat):Nat:=if h:j<s.length then s[j].toNat else 0
theorem byN_lt(s:Bs)(j:Nat):byN s j<256:=by
 unfold byN
 split
 . exact UInt8.toNat_lt _
 . decide
theorem CY(h:s.length=n):byB n (byN s)=s:=by subst h;unfold byB byN;refine YH (by simp) fun i b a=>?_;simp [a]
theorem tz_zero(b:a=(w+7)/8)(h:w%8=0):Tz w a B:=fun r i c d=>by omega
theorem tz_iff(p:a=(w+7)/8)(c: ∀j,B j<256)(e: ∀j,rows*a<=j->B j=0)(q:w%8≠0):Tz w a B↔ ∀k,k<rows->B ((k+1)*a-1)>>>(w%8)=0:=by
 have s:1<=a:=by omega
 have b: ∀k,(k+1)*a-1=k*a+(a-1):=fun k=>by rw [Y4];omega
 constructor
 . intro f k _;refine YZ fun j=>?_;rw [YS,Yw];by_cases t:w%8+j<8
   . have:=f k ((a-1)*8+(w%8+j)) (by omega) (by omega);unfold kD at this;rw [show((a-1)*8+(w%8+j))/8=a-1 by omega,show((a-1)*8+(w%8+j))%8=w%8+j by omega,<-b]at this;exact this
   . refine Nat.testBit_lt_two_pow (Xt (c _) ?_);exact Nat.pow_le_pow_right (n:=2) (by decide) (show 8<=w%8+j by omega)
 . intro h r i u v;unfold kD;have g:i/8=a-1:=(by omega);rw [g,<-b];by_cases l:r<rows
   . have m:=h r l;obtain⟨d,o⟩: ∃d,i%8=w%8+d:=⟨i%8-w%8,by omega⟩;rw [o,<-YS,m,Yw]
   . have:rows*a<=r*a:=X4 a (by omega);rw [e _ (by rw [b];omega),Yw]
theorem bFrom_any{d:Hp}(Y:OZ d)(Q:rows<=300)(Z:w<=1000)(L:a=(w+7)/8)(hs:s.length<=1000000):Ret zB 143 [.int .i64 (rows:Nat),.int .i64 (w:Nat),sv s] d fun r h'=>Gr d h'/\(((s.length=rows*a/\Tz w a (byN s))/\ ∃c e,r=ptrTo c/\d.n<=c/\d.n<=e/\jm h' c e rows w a (byN s))\/(¬(s.length=rows*a/\Tz w a (byN s))/\r=.pointer none)):=by
 have S:=Si Y;have hK:a<=126:=by omega
 have hm:rows*a<=300*126:=XW Q hK;have C:=byN_lt s;have D: ∀j,s.length<=j->byN s j=0:=fun j f=>by unfold byN;rw [dif_neg (by omega)]
 have l: ∀n,s.length=n->byB n (byN s)=s:=fun n h=>CY h;refine erA (n:=59) (rs:=[.tmp 6]) e143 ?_;simp only [BZ,seval];refine step_ret (C5 S.ok Q Z) ?_;rintro _ h ⟨g,c,e,rfl,J,K,M,m⟩;rw [<-L]at m;replace S:=S.call g;have S:=(S.push (.inl J) (o:=.row _ 1) m.r (by simp [keys])).push (.inl K) (o:=.row _ 1) m.b (by simp [keys];exact M.symm);have aa:=fun(t:TypeId) (p q:Operand)=>iw (E:=zB) (x:=p) (y:=q) t63.2.2.2.2.1 (.inr ⟨⟨c,rfl⟩,rfl⟩);by_cases F:s.length=rows*a;rotate_left
 . have N: ¬((s.length:Nat):Int)=((rows*a:Nat):Int):=(by omega);simp only [BZ,ab,cw,N,S.ld (b:=c) (o:=3) m1 rfl,seval];exact⟨S.gr,.inr fun h=>absurd h.1 F⟩
 simp only [BZ,cw,F,S.ld (b:=c) (o:=3) m1 rfl,seval];refine dq (S.copyT (i:=0) rfl t22.1 Tryz.t5.2.2.1 F pW) ?_;clear S;rintro h _ ⟨rfl,S⟩;rw [<-l _ F,<-A7 C]at S;rw [F]at D;generalize byN s=B at*
 simp only [LC,Xc,Xf]at S;have R:(w:Int).tmod 8=((w%8:Nat):Int):=by rw [Xp (by omega)];omega
 have wm:am .i64 ((w%8:Nat):Int)=((w%8:Nat):Int):=by rw [wrap64]<;>omega
 have ac:Tz w a B-> ∀{h'},St NoM d h' [(e,.row (ir (rows*a) B) 1),(c,.row [.int .i64 rows,.int .i64 w,.int .i64 a,.slice (some ⟨e,0,none⟩) (rows*a) (rows*a)] 1)] []->Gr d h'/\((Tz w a B/\ ∃u G,ptrTo c=ptrTo u/\d.n<=u/\d.n<=G/\jm h' u G rows w a B)\/(¬Tz w a B/\ptrTo c=.pointer none)):=fun hT _ S=>⟨S.gr,.inl ⟨hT,c,e,rfl,J,K,S.row m1,S.row m0,C⟩⟩;by_cases T:w%8=0
 . have v:((w%8:Nat):Int)=0:=(by omega);simp only [BZ,ab,fS (show(8:Int)≠0 by decide),R,v,seval];exact⟨S.gr,.inl ⟨tz_zero L T,c,e,rfl,J,K,S.row m1,S.row m0,C⟩⟩
 . have v: ¬(((w%8:Nat):Int)=0):=(by omega);have H:=tz_iff (rows:=rows) L C D T;simp only [BZ,fS (show(8:Int)≠0 by decide),R,v,seval];refine aD (fun(k:Nat) I h=>k<=rows/\(∀j,j<k->B ((j+1)*a-1)>>>(w%8)=0)/\St NoM d h [(e,.row (ir (rows*a) B) 1),(c,.row [.int .i64 rows,.int .i64 w,.int .i64 a,.slice (some ⟨e,0,none⟩) (rows*a) (rows*a)] 1)] []/\I 7=ptrTo c/\I 8=.int .i64 (w%8:Nat)/\I 36=.int .i64 rows/\I 37=.int .i64 k) (fun k=>rows-k) ?_ 0 _ _ ⟨Xd _,fun j f=>absurd f (XU j),S,by simp [ao,ah]⟩;clear S;intro k ih I h ⟨hk,hall,S,r7,r8,r36,r37⟩;have U:am .i64 ((k:Int)+1)=((k+1:Nat):Int):=(by rw [wrap64]<;>omega);by_cases hlt:k<rows
   . have l1:1<=a:=(by omega);have le:(k+1)*a<=rows*a:=X4 a hlt;have lp:0<(k+1)*a:=Nat.mul_pos (by omega) l1;have z:(k+1)*a-1<rows*a:=(by omega);have V:am .i64 (((k+1:Nat):Int)*(a:Int))=(((k+1)*a:Nat):Int):=(by rw [<-Yo,wrap64]<;>omega);have W:am .i64 ((((k+1)*a:Nat):Int)-1)=(((k+1)*a-1:Nat):Int):=(by rw [wrap64]<;>omega);have X:=S.ld m0 (xE (B:=B) z);have z0:((0:Nat):Int)=0:=rfl;have O:=fun(t:TypeId) (p q:Operand)=>uo (E:=zB) (t:=t) (p:=p) (q:=q) (k:=.u8) (k':=.i64) (x:=B ((k+1)*a-1)) (y:=w%8) (by show _<=8;omega);by_cases A:B ((k+1)*a-1)>>>(w%8)=0
     . rw [A]at O;simp only [BZ,r36,r37,aq,hlt,seval];refine av (aB rfl) (q:=0) (ps:=[]) (by kernel_rfl) ?_;simp only [BZ,cls,r7,r8,r37,U,V,W,ey z,X,O,z0,S.ld (b:=c) (o:=3) m1 rfl,S.ld (b:=c) (o:=2) m1 rfl,seval];refine ih (k+1) _ _ (by omega) ⟨by omega,fun j f=>?_,S,by simp [ao,r7,r8,r36]⟩;rcases XF (XK f)with f|rfl
       . exact hall j f
       . exact A
     . have P: ¬((B ((k+1)*a-1)>>>(w%8):Nat):Int)=0:=(by omega);simp only [BZ,r36,r37,aq,hlt,seval];refine av (aB rfl) (q:=0) (ps:=[]) (by kernel_rfl) ?_;simp only [BZ,cls,ab,r7,r8,U,V,W,ey z,X,O,P,S.ld (b:=c) (o:=3) m1 rfl,S.ld (b:=c) (o:=2) m1 rfl,seval];exact⟨S.gr,.inr fun h=>A (H.1 h k hlt)⟩
   . simp only [BZ,ab,r7,r36,r37,aq,hlt,seval];exact⟨S.gr,.inl ⟨H.2 fun j f=>hall j (by omega),c,e,rfl,J,K,S.row m1,S.row m0,C⟩⟩
def slB(w c:Nat):Value:=.slice (some ⟨c,0,none⟩) w w
def rB(w:Nat)(cs:List Nat):List (Nat×Ob):=cs.map fun c=>(c,Ob.row (List.replicate w (Value.bool false)) 1)
theorem Aa(w:Nat): ∀c,((fun c=>[slB w c]) c).length=1:=fun _=>rfl
def BW(f:Nat)(h:Hp)(p:Value)(a w:Nat):Prop:= ∃b d e,p=ptrTo b/\f<=b/\Row h b [.int .i64 w,d] 1/\aH h 1 (fun c=>[slB w c]) d e/\e.length=a/\ ∀c∈e,f<=c/\c≠b/\ ¬aA d c/\ ∃g:List Value,g.length=w/\Row h c g 1
theorem BW.put{cs:List Nat}{f:List Value}(m:i<=b)(R:Row h b [.int .i64 w,vO] 1)(n:aH h 1 (fun c=>[slB w c]) vO cs)(p:cs.length=a)(l: ∀c∈cs,i<=c/\c≠b/\ ¬aA vO c/\ ∃g:List Value,g.length=w/\Row h c g 1)(q:c∈cs)(j:Mo (· =c) h h')(r:f.length=w)(s:Row h' c f 1):BW i h' (ptrTo b) a w:=by
 obtain⟨B,t,u,_⟩:=l c q;refine⟨b,vO,cs,rfl,m,j.has (o:=.row _ 1) R (fun e=>t e.symm),n.mo j (fun d k e=>u (by subst e;exact k)),p,fun d k=>?_⟩;obtain⟨v,x,y,g,z,A⟩:=l d k;refine⟨v,x,y,?_⟩;by_cases e:d=c
 . subst e;exact⟨f,r,s⟩
 . exact⟨g,z,j.has (o:=.row _ 1) A e⟩
theorem app1{b:Type}{x:List b}{p a:b}(h:x.length=i):(p::(x++[a]))[i+1]? =some a:=by rw [XV,XS (by omega),h];simp
theorem set1{b:Type}{x:List b}{p a y:b}(h:x.length=i):(p::(x++[a])).set (i+1) y=p::(x++[y]):=by rw [YE,Yg _ _ (by omega),h];simp
theorem new03_ok{f:Hp}(M:OZ f)(N:a<=300)(O:w<=1000):Ret zB 199 [.int .i64 a,.int .i64 w] f fun r h'=>Gr f h'/\ ∃p,r=.tuple #[p,.bool true]/\BW f.n h' p a w:=by
 have S:=Si M;refine erA (n:=32) (rs:=[.tmp 4,.tmp 5]) e199 ?_;simp only [BZ,seval];refine ar (yA S.ok N O) ?_;intro h g;replace S:=S.call g;simp only [BZ,seval];refine ag (bK (by intro x e;cases e)) S ?_;clear S;intro h b S A;simp only [ae]at S;replace S:=S.nilG (k:=1);simp only [BZ,seval];refine aD (fun(k:Nat) t h=>k<=a/\ ∃(s:Value) (d:List Nat),d.length=k/\(∀c∈d,f.n<=c)/\St NoM f h (rB w d++[(b,.row [.int .i64 w,s] 1)]) [(s,1,d.reverse.flatMap fun c=>[slB w c])]/\t 0=.int .i64 a/\t 1=.int .i64 w/\t 6=ptrTo b/\t 7=.int .i64 k) (fun k=>a-k) ?_ 0 _ _ ⟨Xd _,_,[],rfl,fun c u=>(by cases u),S,by simp [ao,cC,ah]⟩;clear S;intro k P t h ⟨hk,s,d,lc,hcs,S,r0,r1,r6,r7⟩;have Q:am .i64 ((k:Int)+1)=((k+1:Nat):Int):=by rw [wrap64]<;>omega
 have F:(rB w d).length=k:=by simp [rB,lc]
 by_cases hlt:k<a
 . have R:h.load b 1 1=some [s]:=S.ld (XJ _ m0) rfl;simp only [BZ,r0,r7,aq,hlt,seval];refine av (aB rfl) (q:=192) (ps:=[]) (by kernel_rfl) ?_;simp only [BZ,cls,r1,r6,R,seval];refine dR (kY (by exact t202.1) (by exact e4E) (by omega) (by omega)) S ?_;clear S;intro h B S v G;simp only [BZ,cls,Ys,seval];refine dR (bD (by exact t290.1) (by exact e202E) (by decide) (by rfl)) S ?_;clear S;intro h H S I J;simp only [LC,bA,bN,ae,Xo,Xl,Xk,Xq,seval]at S;have U:Fl s:=(S.gown _ m0).1.fl;simp only [BZ,cls,seval];have y:aF h 1 (.slice (some ⟨H,0,none⟩) 1 1)=some (1,[slB w B]):=(by simp only [aF];rw [S.lds (b:=H) (o:=0) (n:=1*1) m0 (lbt rfl)];rfl);replace S:=S.drop1;refine jo (S.grow (j:=0) (m:=1) (new:=[slB w B]) rfl t290.1 e202E (by decide) t290.2.2.2.2.2 y rfl (by decide) rfl (by have:=aK (Aa w) d.reverse;simp only [List.length_reverse]at this;simp only [Yx,X3];rw [this];omega)) ?_;clear S y;rintro h K S;simp only [LC,Xc,Xf]at S;have C:Fl K:=(S.gown _ m0).1.fl;simp only [BZ,cls,seval];refine dM (aw S (i:=k+1) (show(_::(_++_))[k+1]? =_ from app1 F) t290.2.2.1 C (Xe (lbt rfl)) ono) ?_;clear S;rintro h ⟨S,_⟩;rw [set1 F]at S;simp only [LC,Xc,Xf]at S;simp only [BZ,r7,Q,seval];rw [Ys,mE]at S;refine P (k+1) _ _ (by omega) ⟨by omega,K,B::d,by simp [lc],fun c u=>(List.mem_cons.1 u).elim (fun e=>by subst e;exact v) (hcs c),?_,by simp [ao,r0,r1,r6]⟩;rw [List.reverse_cons,XD];exact S
 . simp only [BZ,ab,r0,r6,r7,aq,hlt,seval];obtain rfl:k=a:=(by omega);have D:=S.apart;rw [keys,Xx,Xz]at D;have E:(rB w d).map Prod.fst=d:=(by simp [rB,Function.comp_def]);rw [E]at D;have T:=(S.gown _ m0).1.sl (xs:=d.reverse) (enc:=fun c=>[slB w c]) rfl (Aa w) (by decide);refine⟨S.gr,_,rfl,b,s,d.reverse,by simp [ah],A,S.row (XJ _ m0),T,by simp [lc],fun c u=>?_⟩;have l:=List.mem_reverse.1 u;have L:=fun x=>(List.nodup_append.1 D).2.2 c l x;refine⟨hcs c l,fun e=>L b (by simp) e,fun e=>?_,List.replicate w (.bool false),by simp,S.row (YA _ (List.mem_map.2 ⟨c,l,rfl⟩))⟩;refine L c (XJ _ (List.mem_filterMap.2 ⟨_,m0,?_⟩)) rfl;obtain⟨z,_⟩|⟨V,W,z,_⟩:=(S.gown _ m0).1
   . simp only []at z;subst z;exact e.elim
   . simp only []at z;subst z;exact congrArg some e
theorem b_and1u{t:TypeId}{p:Operand}{x:Nat}(a:x<256):bQ E .and t p q (.int .u8 (x:Int)) (.int .u8 1)=some (.int .u8 ((x&&& 1:Nat):Int)):=ut (k:=.u8) (y:=1) rfl a (by decide)
theorem bit_val(x y:Nat):(x>>>y)&&& 1=if x.testBit y then 1 else 0:=by unfold Nat.testBit;rw [Nat.and_comm 1,Nat.and_one_is_mod];rcases Ym (x>>>y)with h|h<;>rw [h]<;>rfl
theorem from03_ok(ok:OZ A)(U:a<=300)(I:w<=1000)(hK:K=(w+7)/8):Ret zB 149 [.int .i64 a,.int .i64 w,sv f] A fun r h'=>Gr A h'/\ ∃v t,r=.tuple #[v,.bool t]/\(t=true↔f.length=a*K/\Tz w K (byN f)):=by
 have S:=Si ok;have J:am .i64 ((w:Int)+7)=((w+7:Nat):Int):=by rw [wrap64]<;>omega
 have L:am .i64 ((((w+7:Nat):Int)).tdiv 8)=(K:Int):=by rw [Yn (by omega),show(((w+7:Nat):Int)/8)=(K:Int) by omega,wrap64]<;>omega
 have hm:a*K<=300*126:=XW U (by omega);have w4:am .i64 ((a:Int)*(K:Int))=((a*K:Nat):Int):=by rw [<-Yo,wrap64]<;>omega
 have V:am .i64 (8*(K:Int))=((8*K:Nat):Int):=by rw [wrap64]<;>omega
 by_cases lf:f.length=a*K;rotate_left
 . have F: ¬((f.length:Nat):Int)=((a*K:Nat):Int):=(by omega);refine erA (n:=76) (rs:=[.tmp 6,.tmp 7]) e149 ?_;simp only [BZ,seval];refine ar (yA S.ok U I) ?_;intro h g;replace S:=S.call g;simp only [BZ,ab,cw,J,L,w4,F,iD (n:=8) (by decide),seval];exact⟨S.gr,_,_,rfl,by simp only [Xw,false_iff];exact fun h=>lf h.1⟩
 have F:((f.length:Nat):Int)=((a*K:Nat):Int):=by omega
 refine erA (n:=76) (rs:=[.tmp 6,.tmp 7]) e149 ?_;simp only [BZ,seval];refine ar (yA S.ok U I) ?_;intro h g;replace S:=S.call g;simp only [BZ,cw,J,L,w4,F,iD (n:=8) (by decide),seval];refine step_ret (new03_ok S.ok U I) ?_;rintro _ h ⟨g,p,rfl,W⟩;have H:=S.fr.n;have g0:=S.gr.trans g;clear S;simp only [BZ,seval];refine aD (fun(k:Nat) m h=>k<=a/\Gr A h/\(∀r,r<k-> ∀i,w<=i->i/8<K->kD (byN f) K r i=false)/\BW A.n h p a w/\m 0=.int .i64 a/\m 1=.int .i64 w/\m 2=sv f/\m 8=p/\m 10=.int .i64 k) (fun k=>a-k) ?_ 0 _ _ ⟨Xd _,g0,fun r h=>absurd h (XU r),?_,by simp [ao,cC]⟩;rotate_left
 . obtain⟨b,X,Y,e,Z,R,s,l,M⟩:=W;exact⟨b,X,Y,e,Xu H Z,R,s,l,fun d hd=>⟨Xu H (M d hd).1,(M d hd).2⟩⟩
 clear g W g0 H;intro k ih m h ⟨hk,G,hall,W,r0,r1,r2,r8,r10⟩;have wp:am .i64 ((k:Int)+1)=((k+1:Nat):Int):=by rw [wrap64]<;>omega
 by_cases hlt:k<a
 . simp only [BZ,r0,r10,aq,hlt,seval];refine aD (fun(i:Nat) m h=>i<=8*K/\Gr A h/\(∀j,j<i->w<=j->kD (byN f) K k j=false)/\BW A.n h p a w/\m 0=.int .i64 a/\m 1=.int .i64 w/\m 2=sv f/\m 8=p/\m 10=.int .i64 k/\m 11=.int .i64 i) (fun i=>8*K-i) ?_ 0 _ _ ⟨Xd _,G,fun r h=>absurd h (XU r),W,by simp [ao,r0,r1,r2,r8,r10]⟩;clear G W r0 r1 r2 r8 r10;intro i N m h ⟨hi,G,hrow,W,r0,r1,r2,r8,r10,r11⟩;have wi:am .i64 ((i:Int)+1)=((i+1:Nat):Int):=(by rw [wrap64]<;>omega);by_cases B:i<8*K
   . have k1:(k+1)*K<=a*K:=X4 K hlt;rw [Y4,Xq]at k1;have D:k*K+i/8<f.length:=(by omega);have w6:am .i64 ((k:Int)*(K:Int))=((k*K:Nat):Int):=(by rw [<-Yo,wrap64]<;>omega);have w7:am .i64 ((i:Int).tdiv 8)=((i/8:Nat):Int):=(by rw [Yn (by omega),show((i:Int)/8)=((i/8:Nat):Int) by omega,wrap64]<;>omega);have w8:am .i64 (((k*K:Nat):Int)+((i/8:Nat):Int))=((k*K+i/8:Nat):Int):=(by rw [wrap64]<;>omega);have tm:(i:Int).tmod 8=((i%8:Nat):Int):=(by rw [Xp (by omega)];omega);have ix:=jW (l:=f) (E:=zB) (k:=.i64) Tryz.t9.1 D;have eb:f[k*K+i/8].toNat=byN f (k*K+i/8):=(by unfold byN;rw [dif_pos D]);rw [eb]at ix;have sh:=fun(t:TypeId) (p q:Operand)=>uo (E:=zB) (t:=t) (p:=p) (q:=q) (k:=.u8) (k':=.i64) (x:=byN f (k*K+i/8)) (y:=i%8) (by show _<=8;omega);have bB:kD (byN f) K k i=(byN f (k*K+i/8)).testBit (i%8):=rfl;have bv:=bit_val (byN f (k*K+i/8)) (i%8);have O:byN f (k*K+i/8)>>>(i%8)<256:=Nat.lt_of_le_of_lt (Nat.shiftRight_le _ _) (byN_lt f _);have an:=fun(t:TypeId) (p q:Operand)=>b_and1u (E:=zB) (t:=t) (p:=p) (q:=q) O;rw [<-bB]at bv;have u:((((byN f (k*K+i/8)>>>(i%8))&&& 1:Nat):Int)=1)=(kD (byN f) K k i=true):=(by rw [bv];cases kD (byN f) K k i<;>simp);have z:w<=i->kD (byN f) K k i=false-> ∀j,j<i+1->w<=j->kD (byN f) K k j=false:=fun Z h2 j D I=>by
      rcases XF (XK D)with h|rfl
      . exact hrow j h I
      . exact h2
     generalize aa:kD (byN f) K k i=t at u z;by_cases C:i<w
     . obtain⟨b,X,Y,rfl,hb,R,sO,hl,M⟩:=W;have P:k<Y.length:=(by omega);obtain⟨q,o,Q,T⟩:=sO.ix (kd:=.i64) (Aa w) P;have mc:=Xs P;generalize Y[k]=c at T mc;obtain⟨nc,_,_,bs,lb,Rc⟩:=M c mc;have lO:h.load b 1 1=some [X]:=R.load1 (o:=1) rfl;have fO:Fl X:=sO.fl;have fB:Fl (slB w c):=bW;have ac:iC (some 1) (slB w c) (.int .i64 (i:Nat))=some (.pointer (some ⟨c,i,none⟩)):=(by unfold slB;simp only [ng,ey C,Xk,Xl,putI]);simp only [BZ,r1,r2,r8,r10,r11,aq,B,C,J,L,V,w6,w7,w8,tm,ix,sh,an,u,iD (n:=8) (by decide),fS (n:=8) (by decide),lO,Q,T,ac,seval];refine au (aw (St.init1 G.ok (o:=.row bs 1) Rc) (i:=0) rfl Tryz.t4.2.2.1 qi (by omega) ono) ?_;rintro h' ⟨S',mo⟩;have g':Gr A h':=(G.fr.trans S'.fr (fun i e=>.inr (by subst e;exact nc))).gr;simp only [BZ,r11,wi,seval];refine N (i+1) _ _ (by omega) ⟨by omega,g',fun j D I=>(by omega),BW.put hb R sO hl M mc S'.fr (by simp [lb]) (S'.row m0),by simp [ao,r0,r1,r2,r8,r10]⟩
     . cases t with
       | true=>
         simp only [BZ,ab,r1,r2,r10,r11,aq,B,C,J,L,V,w6,w7,w8,tm,ix,sh,an,u,iD (n:=8) (by decide),fS (n:=8) (by decide),seval];exact⟨G,_,_,rfl,by simp only [Xw,false_iff];exact fun hT=>by have:=hT.2 k i (by omega) (by omega);rw [aa]at this;cases this⟩
       | false=>simp only [BZ,Xw,r1,r2,r10,r11,aq,B,C,J,L,V,w6,w7,w8,tm,ix,sh,an,u,iD (n:=8) (by decide),fS (n:=8) (by decide),wi,seval];exact N (i+1) _ _ (by omega) ⟨by omega,G,z (by omega) rfl,W,by simp [ao,r0,r1,r2,r8,r10]⟩
   . simp only [BZ,ab,r1,r8,r10,r11,aq,B,J,L,V,iD (n:=8) (by decide),wp,seval];refine ih (k+1) _ _ (by omega) ⟨by omega,G,fun r hr j D h8=>?_,W,by simp [ao,r0,r1,r2,r8]⟩;rcases XF (XK hr)with h|rfl
     . exact hall r h j D h8
     . exact hrow j (by omega) D
 . simp only [BZ,ab,r0,r8,r10,aq,hlt,seval];have hT:Tz w K (byN f):=fun r i Z h2=>by
    by_cases hr:r<a
    . exact hall r (by omega) i Z h2
    . have:a*K<=r*K:=X4 K (by omega);show(byN f (r*K+i/8)).testBit (i%8)=false;unfold byN;rw [dif_neg (by omega),Yw]
   exact⟨G,_,_,rfl,by simp only [true_iff];exact⟨lf,hT⟩⟩
theorem cellG_rd(s:Bs):(zM s.length).map (fun k=>((aS ((s.drop k).take 1):Nat):Int))=eJ s:=by
 refine YH (by simp [eJ]) fun i c a=>?_;rw [Yj,Yc];have b:i<s.length:=by simpa [eJ]using a
 rw [YF b,Xg,Xn];simp [eJ,aS]
theorem BY(s:Bs): ∀x∈eJ s,0<=x/\x<=255:=by intro x a;unfold eJ at a;obtain⟨b,_,rfl⟩:=List.mem_map.1 a;have:=UInt8.toNat_lt b;omega
def tu(s:Bs):Nat:=(gD (eJ s)+1).toNat
def mR(a:Gra)(s f:Bs):Prop:=s.length=a.nodes/\ ¬mS (eJ s)/\f.length=tu s*((a.arcs.length+7)/8)/\Tz a.arcs.length ((a.arcs.length+7)/8) (byN f)
theorem DA(s:Bs):gD (eJ s)+1=((tu s:Nat):Int)/\tu s<=256/\0<=gD (eJ s)/\gD (eJ s)<=255:=by have:=lmax_bd (K:=255) (by decide) (BY s);unfold tu;omega
theorem vr{r:Hp}(ok:OZ r){c:Gra}(A:jZ c){P:Value}(I:cI r nb P c)(hs:s.length<=1000000)(hf:f.length<=1000000):dE zB 85 [P,sv s,sv f] none r fun o rc h'=>rc=none/\Gr r h'/\((mR c s f/\ ∃J Q,o=.ret (.tuple #[J,Q])/\ ∀{M:Nat->Prop} {K:Hp},Mo M h' K->(∀b,M b->b<r.n)->lU K J Q c (eJ s) f)\/(¬mR c s f/\o=.pan trB)):=by
 have S:=Si ok;have aa:=A.n2;have ac:=A.many;obtain⟨R,T,l0,U⟩:=DA s;have rd:=cellG_rd s;have bd:=BY s;have B:(eJ s).length=s.length:=by simp [eJ]
 have D:mR c s f↔s.length=c.nodes/\ ¬mS (eJ s)/\f.length=tu s*((c.arcs.length+7)/8)/\Tz c.arcs.length ((c.arcs.length+7)/8) (byN f):=YV;generalize mR c s f=C at D⊢;generalize hm:eJ s=m at*
 generalize tu s=F at*
 have no: ∀{x:Out} {rc:Option (Value×Bool)} {h h':Hp},¬C->Gr r h->(x=.pan trB/\rc=none/\Gr h h')->x=.pan trB/\rc=none/\Gr r h':=fun _ g h=>⟨h.1,h.2.1,g.trans h.2.2⟩;by_cases u:s.length=c.nodes;rotate_left
 . have L: ¬((s.length:Nat):Int)=(c.nodes:Int):=(by omega);refine enA (n:=38) (rs:=[.tmp 6,.tmp 7]) e85 ?_;simp only [BZ,cw,seval];refine ar (dm S.ok (I.gr S.gr)) ?_;intro h g;replace S:=S.call g;simp only [BZ,L,seval];refine ce (hZ S.ok) ?_;rintro o rc h ⟨rfl,rfl,g⟩;simp only [BZ];exact cg (cy ⟨rfl,S.gr.trans g,.inr ⟨fun h=>u (D.1 h).1,rfl⟩⟩)
 refine enA (n:=38) (rs:=[.tmp 6,.tmp 7]) e85 ?_;simp only [BZ,cw,u,seval];refine ar (dm S.ok (I.gr S.gr)) ?_;intro h g;replace S:=S.call g;simp only [BZ,seval];refine ar (iU S.ok) ?_;intro h g;replace S:=S.call g;simp only [BZ,gP (l:=s),seval];refine step_ret (rj S) ?_;rintro _ h ⟨V,rfl,S⟩;simp only [BZ];refine ag ay S ?_;clear S;intro h b8 S W;simp only [BZ,seval];refine au (aw S (i:=0) rfl ?_ ?_ ?_ ono) ?_
 . exact(by simp only [FA0])
 . exact(by exact dB)
 . exact Xe (lbt rfl)
 clear S;rintro h ⟨S,G⟩;clear G;simp only [LC,ae,lay,Xa,Xb,seval]at S;simp only [BZ,cw,u,seval];refine step_ret (Dq (val:=fun k=>((aS ((s.drop k).take 1):Nat):Int)) (fun k=>[(b8,.row [ptrTo V] 1),(V,.row (rdC s k (.pointer none)) 1)]) S (n:=c.nodes) (by omega) ?_) ?_
 . clear S;intro k p h hk S;refine iz (cells1_ok S (j:=2) (s:=s) (a:=k) (S.ld m1 rfl) rfl (by omega) hs) ?_;rintro _ h' ⟨rfl,S⟩;exact⟨rfl,S⟩
 rintro _ h ⟨N,rfl,S⟩;rw [<-u,rd]at S;have sM:aH h 1 (encI .i64) (.slice (some ⟨N,0,none⟩) c.nodes c.nodes) m:=.inr ⟨N,0,none,_,by rw [B,u],by rw [B,u];exact XA _,by
  have:=S.lds (b:=N) (o:=0) (n:=m.length*1) m0 (by rw [aK (aE .i64)];omega);rw [Xj,Xm (by rw [aK (aE .i64)];omega)]at this;exact this⟩
 simp only [BZ,seval];refine step_ret (zU S.ok sM (by omega) (by omega)) ?_;have kn:=S.fr.n;rintro J h ⟨g,⟨v,rfl⟩|⟨X,d⟩⟩
 . replace S:=S.call g;have O:=fun(t:TypeId) (p q:Operand)=>iw (E:=zB) (x:=p) (y:=q) t62.2.2.2.2.1 (.inl ⟨rfl,rfl⟩);simp only [BZ,seval];refine ce (hZ S.ok) ?_;rintro o rc h ⟨rfl,rfl,g⟩;simp only [BZ];exact cg (cy ⟨rfl,S.gr.trans g,.inr ⟨fun h=>(D.1 h).2.1 v,rfl⟩⟩)
 replace S:=S.call g;obtain⟨bc,vc,rfl,rC,sC,ad,af⟩:=id d;have O:=fun(t:TypeId) (p q:Operand)=>iw (E:=zB) (x:=p) (y:=q) t62.2.2.2.2.1 (.inr ⟨⟨bc,rfl⟩,rfl⟩);simp only [BZ,seval];refine ar (iU S.ok) ?_;intro h g;replace S:=S.call g;replace d:=d.gr g;clear g;simp only [BZ,seval];refine ar (xB S.ok (n:=gD m+1) (.inr ⟨⟨_,d⟩,rfl⟩)) ?_;intro h g;replace S:=S.call g;replace d:=d.gr g;clear g;simp only [BZ,seval];refine ar (pd S.ok (I.gr S.gr)) ?_;intro h g;replace S:=S.call g;replace d:=d.gr g;clear g;rw [R];simp only [BZ,seval];refine step_ret (bFrom_any S.ok (by omega) (by omega) rfl hf) ?_;have ai:=S.fr.n;rintro _ h ⟨g,⟨⟨Y,Z⟩,bp,bb,rfl,np,ak,mB⟩|⟨v,rfl⟩⟩;rotate_left
 . replace S:=S.call g;have H:=fun(t:TypeId) (p q:Operand)=>iw (E:=zB) (x:=p) (y:=q) t63.2.2.2.2.1 (.inl ⟨rfl,rfl⟩);simp only [BZ,seval];refine ce (hZ S.ok) ?_;rintro o rc h ⟨rfl,rfl,g⟩;simp only [BZ];exact cg (cy ⟨rfl,S.gr.trans g,.inr ⟨fun h=>v (D.1 h).2.2,rfl⟩⟩)
 replace S:=S.call g;replace d:=d.gr g;have H:=fun(t:TypeId) (p q:Operand)=>iw (E:=zB) (x:=p) (y:=q) t63.2.2.2.2.1 (.inr ⟨⟨bp,rfl⟩,rfl⟩);simp only [BZ,seval];refine ar (iU S.ok) ?_;intro h g;replace S:=S.call g;simp only [BZ,seval];have w:=mB.gr g;refine leave_r2 (by decide) (by decide) ?_;simp only [az,seval];exact⟨trivial,S.gr,.inl ⟨D.2 ⟨u,X,Y,Z⟩,_,_,rfl,fun {M K} G z=>⟨_,bp,bb,F,_,byN f,(d.gr g).mo G (fun b hb=>Xt (z b hb) kn),by omega,rfl,R,⟨G.has (o:=.row _ 1) w.r (fun e=>by have:=z _ e;omega),G.has (o:=.row _ 1) w.b (fun e=>by have:=z _ e;omega),w.lt⟩,(CY Y).symm,fun x hx=>by have:=bd x hx;omega,X,rfl,Z⟩⟩⟩
theorem EN{d:Hp}(Q:OZ d){a:Gra}{F G:Value}(B:cL d F G H a)(h2:a.nodes<=300)(hm:a.arcs.length<=400):Ret zB 89 [gc a F G H,sv s,sv f] d fun r h'=>Gr d h'/\ ∃v t,r=.tuple #[v,.bool t]/\Fl v/\(t=true↔mR a s f)/\(t=true->aH h' 1 (encI .i64) v (eJ s))/\ ∀c,aA v c->d.n<=c:=by
 have S:=Si Q;have fX:=B.X.fl;have fY:=B.Y.fl;have fA:=B.A.fl;have R:(eJ s).length=s.length:=by simp [eJ]
 obtain⟨mr,J,l0,K⟩:=DA s;have D:mR a s f↔s.length=a.nodes/\ ¬mS (eJ s)/\f.length=tu s*((a.arcs.length+7)/8)/\Tz a.arcs.length ((a.arcs.length+7)/8) (byN f):=YV;generalize mR a s f=C at D⊢;by_cases L:s.length=a.nodes;rotate_left
 . have i: ¬((s.length:Nat):Int)=(a.nodes:Int):=(by omega);refine erA (n:=46) (rs:=[.tmp 6,.tmp 7]) e89 ?_;simp only [BZ,gc,seval];refine ag (bK (by intro x e;cases e)) S ?_;clear S;intro h u S y;simp only [ae]at S;simp only [BZ,ab,cw,i,S.ld (b:=u) (o:=0) m0 rfl,seval];exact⟨S.gr,_,_,rfl,bW,by simp only [Xw,false_iff];exact fun h=>L (D.1 h).1,(fun h=>by cases h),fun c h=>h.elim⟩
 have i:((s.length:Nat):Int)=(a.nodes:Int):=by omega
 refine erA (n:=46) (rs:=[.tmp 6,.tmp 7]) e89 ?_;simp only [BZ,gc,seval];refine ag (bK (by intro x e;cases e)) S ?_;clear S;intro h u S y;simp only [ae]at S;simp only [BZ,cw,i,S.ld (b:=u) (o:=0) m0 rfl,seval];replace S:=S.nilG (k:=1);refine aD (fun(k:Nat) w h=>k<=s.length/\ ∃v:Value,St NoM d h [(u,.row [.int .i64 a.nodes,F,G,H] 1)] [(v,1,ints ((eJ s).take k))]/\w 1=sv s/\w 2=sv f/\w 3=ptrTo u/\w 8=v/\w 9=.int .i64 k) (fun k=>s.length-k) ?_ 0 _ _ ⟨Xd _,_,S,by simp [ao,cC,ah]⟩;clear S;intro k T w h ⟨hk,v,S,r1,r2,r3,r8,r9⟩;have U:am .i64 ((k:Int)+1)=((k+1:Nat):Int):=by rw [wrap64]<;>omega
 by_cases hlt:k<s.length
 . have M:=jW (l:=s) (E:=zB) (k:=.i64) Tryz.t9.1 hlt;have N:(eJ s).take (k+1)=(eJ s).take k++[((s[k].toNat:Nat):Int)]:=(by rw [Xv (by omega)];simp [eJ]);have z:s[k].toNat<256:=UInt8.toNat_lt _;generalize s[k].toNat=x at M N z;have V:am .i64 ((x:Nat):Int)=((x:Nat):Int):=(by rw [wrap64]<;>omega);simp only [BZ,aV,ax,a9,r1,r8,r9,cw,aq,hlt,M,V,seval];refine ag (bD (by exact t38.1) (by exact XP) (by decide) (by rfl)) S ?_;clear S;intro h O S P;simp only [LC,bA,bN,ae,Xo,Xl,Xk,Xq,seval]at S;have A:aF h 1 (.slice (some ⟨O,0,none⟩) 1 1)=some (1,ints [((x:Nat):Int)]):=(by simp only [aF];rw [S.lds (b:=O) (o:=0) (n:=1*1) m0 (lbt rfl)];rfl);replace S:=S.drop1;simp only [BZ,seval];refine dq (S.grow (j:=0) (m:=1) (new:=ints [((x:Nat):Int)]) rfl t38.1 XP (by decide) t38.2.2.2.2.2 A rfl (by decide) rfl (by rw [bR,bR,Xy];simp;omega)) ?_;clear S A;rintro h W S;simp only [LC,Xc,Xf]at S;rw [<-fk,<-N]at S;simp only [BZ,r9,U,seval];exact T (k+1) _ _ (by omega) ⟨by omega,W,S,by simp [ao,r1,r2,r3]⟩
 rw [Xm (by omega)]at S;have p:=(S.gown _ m0).1.sl rfl (aE .i64) (by decide);have X: ∀c,aA v c->d.n<=c:=fun c Y=>((S.gblk m0 Y).1).elim id (fun h=>h.elim);simp only [BZ,r1,r8,r9,cw,aq,hlt,seval];refine step_ret (many23_ok S.ok p (by omega)) ?_;intro v h ⟨g,n,e,n0,nm,n256⟩;replace S:=S.call g;replace p:=p.gr g;clear g;subst e;by_cases I:n=0
 . have q:((n:Nat):Int)=0:=(by omega);simp only [BZ,ab,q,seval];exact⟨S.gr,_,_,rfl,bW,by simp only [Xw,false_iff];exact fun h=>(D.1 h).2.1 (n0.1 I),(fun h=>by cases h),fun c h=>h.elim⟩
 have q: ¬((n:Nat):Int)=0:=by omega
 have Z:tu s=n:=by have:=nm I;omega
 have fv:=p.fl;simp only [BZ,r2,r3,q,(B.A.gr S.gr).lenq,S.ld (b:=u) (o:=3) m0 rfl,seval];refine step_ret (from03_ok S.ok (f:=f) (show n<=300 by omega) (show a.arcs.length<=1000 by omega) rfl) ?_;intro v h ⟨g,v1,t,e,ht⟩;replace S:=S.call g;replace p:=p.gr g;clear g;subst e;simp only [BZ,ab,r8,seval];refine⟨S.gr,v,t,rfl,fv,?_,fun _=>p,X⟩;rw [ht,D,Z];exact⟨fun h=>⟨L,fun c=>I (n0.2 c),h.1,h.2⟩,fun h=>⟨h.2.2.1,h.2.2.2⟩⟩
theorem zJ{g:Hp}(t:OZ g){l m:List Int}(j:aH g 1 (encI .i64) u l)(s:aH g 1 (encI .i64) v m)(B:l.length<1000000):cj zB 91 [u,v] g (.bool (decide (l=m))):=by
 have S:=Si t;by_cases a:l.length=m.length
 . have hle:((l.length:Int)=(m.length:Int)):=(by omega);refine erA (n:=26) (rs:=[.tmp 4]) e91 ?_;simp only [BZ,j.lenq,s.lenq,hle,seval];refine aD (fun(i:Nat) p h=>i<=l.length/\l.take i=m.take i/\Gr g h/\p 0=u/\p 1=v/\p 5=.int .i64 i) (fun i=>l.length-i) ?_ 0 _ _ ?_
   . clear S;intro i x p h ⟨hi,ht,S,r0,r1,r5⟩;by_cases hlt:i<l.length
     . obtain⟨c,o,d,k⟩:=(j.gr S).ix (kd:=.i64) (aE .i64) hlt;obtain⟨C,D,b,e⟩:=(s.gr S).ix (kd:=.i64) (aE .i64) (a▸hlt);have w:am .i64 ((i:Int)+1)=((i+1:Nat):Int):=(by rw [wrap64]<;>omega);by_cases r:l[i]=m[i]
       . simp only [BZ,r0,r5,j.lenq,aq,hlt,seval];refine av (aB rfl) (q:=0) (ps:=[]) (by kernel_rfl) ?_;simp only [BZ,cls,r0,r1,r5,d,k,b,e,encI,r,w,seval];refine x (i+1) _ _ (by omega) ⟨by omega,?_,S,by simp [ao,r0,r1]⟩;rw [Xv hlt,Xv (a▸hlt),ht,r]
       . have f:l≠m:=(by rintro rfl;exact r rfl);simp only [BZ,r0,r5,j.lenq,aq,hlt,seval];refine av (aB rfl) (q:=0) (ps:=[]) (by kernel_rfl) ?_;simp only [BZ,cls,ab,r0,r1,r5,d,k,b,e,encI,r,f,seval];exact S
     . have y:l=m:=(by have z:l.take i=l:=Xm (by omega);have A:m.take i=m:=Xm (by omega);rw [z,A]at ht;exact ht);subst y;simp only [BZ,ab,r0,r5,j.lenq,aq,hlt,seval];exact S
   . exact⟨Xd _,rfl,Gr.refl t,by simp [ao,ct,cP]⟩
 . have f:l≠m:=(by rintro rfl;exact a rfl);have hle: ¬((l.length:Int)=(m.length:Int)):=(by omega);refine erA (n:=26) (rs:=[.tmp 4]) e91 ?_;simp only [BZ,ab,j.lenq,s.lenq,hle,f,seval];exact S.gr
theorem Bd{l:List Int}(b:i<l.length):pP N l i↔0<=l[i]/\l[i]<N/\ ∀k,k<i->l.getD k 0≠l[i]:=by
 have c:l.getD i 0=l[i]:=by simp [zO,b]
 unfold pP;rw [c];refine and_congr YV (and_congr YV ⟨fun h k a e=>h ?_,fun h d=>?_⟩)
 . refine List.mem_iff_getElem.2 ⟨k,by rw [Xy];omega,?_⟩;rw [List.getElem_take,<-e];simp [zO,show k<l.length by omega]
 . obtain⟨k,a,e⟩:=List.mem_iff_getElem.1 d;rw [Xy]at a;refine h k (by omega) ?_;rw [<-e,List.getElem_take];simp [zO,show k<l.length by omega]
theorem refMay_ok{u:Hp}(G:OZ u){l:List Int}(r:aH u 1 (encI .i64) v l)(M:l.length<=1000):cj zB 196 [.int .i64 N,v] u (.bool (decide (gU N l))):=by
 have S:=Si G;by_cases H:16<l.length
 . have c:(16:Int)<(l.length:Int):=(by omega);have I: ¬gU N l:=fun h=>(by have:=h.1;omega);refine erA (n:=43) (rs:=[.tmp 4]) e196 ?_;simp only [BZ,ab,r.lenq,c,seval];exact⟨by rw [decide_eq_false I],S.gr⟩
 have c: ¬(16:Int)<(l.length:Int):=by omega
 refine erA (n:=43) (rs:=[.tmp 4]) e196 ?_;simp only [BZ,r.lenq,c,seval];refine aD (fun(i:Nat) p h=>i<=l.length/\Gr u h/\(∀j,j<i->pP N l j)/\p 0=.int .i64 N/\p 1=v/\p 5=.int .i64 i) (fun i=>l.length-i) ?_ 0 _ _ ?_
 . clear S;intro i J p h ⟨hi,S,hok,r0,r1,r5⟩;have w:am .i64 ((i:Int)+1)=((i+1:Nat):Int):=(by rw [wrap64]<;>omega);by_cases hlt:i<l.length
   . obtain⟨q,o,b,d⟩:=(r.gr S).ix (kd:=.i64) (aE .i64) hlt;have f:=Bd (N:=N) hlt;have t: ¬pP N l i->decide (gU N l)=false:=fun h=>decide_eq_false fun B=>h (B.2 i hlt);obtain⟨x,E⟩: ∃x,l[i]=x:=⟨_,rfl⟩;rw [E]at d f;by_cases C:x<0
     . have y:=t (fun h=>by have:=(f.1 h).1;omega);simp only [BZ,ab,r1,r5,r.lenq,aq,hlt,b,d,encI,C,y,seval];exact S
     by_cases F:(N:Int)<=x
     . have y:=t (fun h=>by have:=(f.1 h).2.1;omega);simp only [BZ,ab,r0,r1,r5,r.lenq,aq,hlt,b,d,encI,C,F,y,seval];exact S
     simp only [BZ,r0,r1,r5,r.lenq,aq,hlt,b,d,encI,C,F,seval];refine aD (fun(k:Nat) p h=>k<=i/\Gr u h/\(∀j,j<k->l.getD j 0≠x)/\p 0=.int .i64 N/\p 1=v/\p 5=.int .i64 i/\p 6=.int .i64 k) (fun k=>i-k) ?_ 0 _ _ ?_
     . clear r0 r1 r5 b d S;intro k D p h ⟨hk,S,hne,r0,r1,r5,r6⟩;have K:am .i64 ((k:Int)+1)=((k+1:Nat):Int):=(by rw [wrap64]<;>omega);by_cases s:k<i
       . obtain⟨q,o,b,d⟩:=(r.gr S).ix (kd:=.i64) (aE .i64) hlt;rw [E]at d;obtain⟨O,P,g,m⟩:=(r.gr S).ix (kd:=.i64) (aE .i64) (i:=k) (by omega);have L:l.getD k 0=l[k]:=(by simp [zO,show k<l.length by omega]);rw [<-L]at m;by_cases z:l.getD k 0=x
         . have y:=t (fun h=>(f.1 h).2.2 k s z);simp only [BZ,r5,r6,aq,s,seval];refine av (aB rfl) (q:=0) (ps:=[]) (by kernel_rfl) ?_;simp only [BZ,cls,ab,r1,r5,r6,b,d,g,m,encI,z,y,seval];exact S
         . simp only [BZ,r5,r6,aq,s,seval];refine av (aB rfl) (q:=0) (ps:=[]) (by kernel_rfl) ?_;simp only [BZ,cls,r1,r5,r6,b,d,g,m,encI,z,K,seval];refine D (k+1) _ _ (by omega) ⟨by omega,S,fun j A=>?_,by simp [ao,r0,r1,r5]⟩;by_cases e:j=k
           . rw [e];exact z
           . exact hne j (by omega)
       . simp only [BZ,ab,r5,r6,aq,s,w,seval];refine J (i+1) _ _ (by omega) ⟨by omega,S,fun j A=>?_,by simp [ao,r0,r1]⟩;by_cases e:j=i
         . subst e;exact f.2 ⟨by omega,by omega,fun a Q=>hne a (by omega)⟩
         . exact hok j (by omega)
     . exact⟨Xd _,S,fun j A=>by omega,by simp [ao,r0,r1,r5]⟩
   . have B:gU N l:=⟨by omega,fun j A=>hok j (by omega)⟩;simp only [BZ,ab,r1,r5,r.lenq,aq,hlt,seval];exact⟨by rw [decide_eq_true B],S⟩
 . exact⟨Xd _,S.gr,fun j A=>by omega,by simp [ao,ct,cP]⟩
theorem zq{j:Hp}(G:OZ j){J:Nat}(s:cS j m u n R)(H:cS j J v n R)(N:n<1000)(K: ∀i,i<n->(R i).length<1000000):cj zB 92 [u,v] j (.bool true):=by
 have S:=Si G;refine erA (n:=53) (rs:=[.tmp 4]) e92 ?_;simp only [BZ,s.lenq,H.lenq,seval];refine aD (fun(i:Nat) d h=>i<=n/\Gr j h/\d 0=u/\d 1=v/\d 5=.int .i64 i) (fun i=>n-i) ?_ 0 _ _ ?_
 . clear S;intro i L d h ⟨hi,S,r0,r1,r5⟩;have w:am .i64 ((i:Int)+1)=((i+1:Nat):Int):=(by rw [wrap64]<;>omega);by_cases hlt:i<n
   . obtain⟨x,⟨c,o,a,l⟩,r,_⟩:=(s.gr S).row hlt;obtain⟨y,⟨O,P,b,f⟩,t,_⟩:=(H.gr S).row hlt;have Q:=r.fl;have T:=t.fl;simp only [BZ,r0,r5,s.lenq,aq,hlt,seval];refine av (aB rfl) (q:=0) (ps:=[]) (by kernel_rfl) ?_;simp only [BZ,cls,r0,r1,r5,a,l,b,f,r.lenq,t.lenq,seval];refine aD (fun(k:Nat) d I=>k<=(R i).length/\Gr h I/\d 0=u/\d 1=v/\d 5=.int .i64 i/\d 6=.int .i64 k) (fun k=>(R i).length-k) ?_ 0 _ _ ?_
     . clear r0 r1 r5;intro k z d I ⟨hk,g,r0,r1,r5,r6⟩;have M:am .i64 ((k:Int)+1)=((k+1:Nat):Int):=(by have:=K i hlt;rw [wrap64]<;>omega);have A:=g.load l;have B:=g.load f;by_cases e:k<(R i).length
       . obtain⟨q,p,C,D⟩:=(r.gr g).ix (kd:=.i64) (aE .i64) e;obtain⟨U,V,E,F⟩:=(t.gr g).ix (kd:=.i64) (aE .i64) e;simp only [BZ,r0,r5,r6,a,A,r.lenq,aq,e,seval];refine av (aB rfl) (q:=0) (ps:=[]) (by kernel_rfl) ?_;simp only [BZ,cls,r0,r1,r5,r6,a,A,b,B,C,D,E,F,encI,M,seval];exact z (k+1) _ _ (by omega) ⟨by omega,g,by simp [ao,r0,r1,r5]⟩
       . simp only [BZ,ab,r0,r5,r6,a,A,r.lenq,aq,e,w,seval];exact L (i+1) _ _ (by omega) ⟨by omega,S.trans g,by simp [ao,r0,r1]⟩
     . exact⟨Xd _,Gr.refl S.ok,by simp [ao,r0,r1,r5]⟩
   . simp only [BZ,ab,r0,r5,s.lenq,aq,hlt,seval];exact S
 . exact⟨Xd _,Gr.refl G,by simp [ao,ct,cP]⟩
theorem A3{u:Hp}(J:OZ u)(E:cS u m v n R)(K:n<1000)(W:N<1000000)(P: ∀i,i<n->(R i).length=N):Ret zB 197 [.int .i64 N,.int .i64 n,v] u fun r h'=>Gr u h'/\ ∃t,r=.bool t/\(t=true↔ ∀i,i<n->fP N (R i)):=by
 have S:=Si J;refine erA (n:=53) (rs:=[.tmp 6]) e197 ?_;simp only [BZ,E.lenq,seval];refine aD (fun(i:Nat) d h=>i<=n/\Gr u h/\(∀j,j<i->fP N (R j))/\d 0=.int .i64 N/\d 2=v/\d 7=.int .i64 i) (fun i=>n-i) ?_ 0 _ _ ?_
 . clear S;intro i Q d h ⟨hi,S,hall,r0,r2,r7⟩;have w:am .i64 ((i:Int)+1)=((i+1:Nat):Int):=(by rw [wrap64]<;>omega);by_cases hlt:i<n
   . obtain⟨x,⟨c,o,a,D⟩,f,_⟩:=(E.gr S).row hlt;have X:=f.fl;have A:=P i hlt;simp only [BZ,r0,r2,r7,E.lenq,aq,hlt,a,D,f.lenq,A,seval];refine aD (fun(k:Nat) d h'=>k<=N/\Gr h h'/\(∀y∈(R i).take k,qA y)/\d 0=.int .i64 N/\d 2=v/\d 7=.int .i64 i/\d 8=.int .i64 k) (fun k=>N-k) ?_ 0 _ _ ?_
     . clear r0 r2 r7;intro k G d h' ⟨hk,g,hrow,r0,r2,r7,r8⟩;have T:am .i64 ((k:Int)+1)=((k+1:Nat):Int):=(by rw [wrap64]<;>omega);have F:=g.load D;by_cases e:k<N
       . have l:k<(R i).length:=(by omega);obtain⟨q,p,s,b⟩:=(f.gr g).ix (kd:=.i64) (aE .i64) l;have L:=Xs l;have M:(R i).take (k+1)=(R i).take k++[(R i)[k]]:=Xv l;have H: ¬qA (R i)[k]-> ¬ ∀i,i<n->fP N (R i):=fun K U=>K ((U i hlt).2 _ L);simp only [encI]at b;generalize(R i)[k]=y at b L M H;by_cases I:y<0
         . simp only [BZ,ab,r2,r7,r8,a,F,f.lenq,A,aq,e,s,b,I,seval];exact⟨S.trans g,_,rfl,by simp only [Xw,false_iff];exact H (by unfold qA;omega)⟩
         by_cases O:72057594037927936<y
         . simp only [BZ,ab,r2,r7,r8,a,F,f.lenq,A,aq,e,s,b,I,O,seval];exact⟨S.trans g,_,rfl,by simp only [Xw,false_iff];exact H (by unfold qA;omega)⟩
         simp only [BZ,r2,r7,r8,a,F,f.lenq,A,aq,e,s,b,I,O,T,seval];refine G (k+1) _ _ (by omega) ⟨by omega,g,fun z B=>?_,by simp [ao,r0,r2,r7]⟩;rw [M]at B;rcases List.mem_append.1 B with B|B
         . exact hrow z B
         . cases List.mem_singleton.1 B;exact⟨by omega,by omega⟩
       . simp only [BZ,ab,r2,r7,r8,a,F,f.lenq,A,aq,e,w,seval];rw [Xm (by omega)]at hrow;refine Q (i+1) _ _ (by omega) ⟨by omega,S.trans g,fun j C=>?_,by simp [ao,r0,r2]⟩;rcases XF (XK C)with C|rfl
         . exact hall j C
         . exact⟨A,hrow⟩
     . exact⟨Xd _,Gr.refl S.ok,fun y V=>(by simp at V),by simp [ao,r0,r2,r7]⟩
   . simp only [BZ,ab,r2,r7,E.lenq,aq,hlt,seval];exact⟨S,_,rfl,by simp only [true_iff];exact fun j C=>hall j (by omega)⟩
 . exact⟨Xd _,Gr.refl J,fun j C=>absurd C (XU j),by simp [ao,ct,cP]⟩
theorem make17_ok{b:Hp}(o:OZ b){p q:Nat}{f j k:Value}{l:List Int}(d:aH b 1 (encI .i64) f l)(s:cS b p j l.length R)(u:cS b q k l.length Q)(A:1<=N)(m:N<1000000)(a:l.length<1000)(w: ∀i,i<l.length->(R i).length=N)(x: ∀i,i<l.length->(Q i).length=N):Ret zB 147 [.int .i64 N,f,j,k] b fun r h'=>Gr b h'/\ ∃t,r=.bool t/\(t=true↔TabR N l R Q):=by
 have S:=Si o;have y:(1:Int)<=(N:Int):=by omega
 refine erA (n:=30) (rs:=[.tmp 8]) e147 ?_;simp only [BZ,y,seval];refine ar (refMay_ok S.ok (d.gr S.gr) (by omega)) ?_;intro h g;replace S:=S.call g;by_cases c:gU N l;rotate_left
 . rw [decide_eq_false c];simp only [BZ,ab,seval];exact⟨S.gr,_,rfl,by simp only [Xw,false_iff];exact fun h=>c h.1⟩
 rw [decide_eq_true c];simp only [BZ,d.lenq,seval];refine step_ret (A3 S.ok (s.gr S.gr) a m w) ?_;intro v h ⟨g,t,e,ht⟩;replace S:=S.call g;subst e;cases t with
 | false=>
   simp only [BZ,ab,seval];exact⟨S.gr,_,rfl,by simp only [Xw,false_iff];exact fun h=>by have:=ht.2 h.2.1;cases this⟩
 |true=>
 have z:=ht.1 rfl;clear ht;simp only [BZ,d.lenq,seval];refine step_ret (A3 S.ok (u.gr S.gr) a m x) ?_;intro v h ⟨g,t,e,ht⟩;replace S:=S.call g;subst e;simp only [BZ,ab,seval];exact⟨S.gr,_,rfl,ht.trans ⟨fun h=>⟨c,z,h⟩,fun h=>h.2.2⟩⟩
theorem chk06_ok(ok:OZ D){d:Gra}(B:pK d){P Q R:Value}(z:cL D P Q R d):Ret zB 146 [gc d P Q R] D fun r h'=>Gr D h'/\ ∃c p i f:Int,r=.agg ⟨[.int .i64 c,.int .i64 p,.int .i64 i,.int .i64 f]⟩/\(c=0↔gG d):=by
 have S:=Si ok;have n2:=B.n2;have lX:=B.lX;have lY:=B.lY;have mA:=B.many;have fX:=z.X.fl;have fY:=z.Y.fl;have fA:=z.A.fl;by_cases c1:(d.nodes:Int)<1
 . refine erA (n:=119) (rs:=[.cell 2 102]) e146 ?_;simp only [BZ,gc,seval];refine ag (bK (by intro x e;cases e)) S ?_;clear S;intro h l S I;simp only [ae]at S;simp only [BZ];refine ag ay S ?_;clear S;intro h u S J;simp only [BZ,c1,S.ld (b:=l) (o:=0) m1 rfl,seval];refine au (stA S (i:=0) Tryz.t7.2.1) ?_;clear S;rintro h ⟨S,t⟩;clear t;simp only [LC,ae,lay,Xa,Xb,seval]at S;simp only [BZ,ab];refine(bF (by decide) (by simp only [az,ah,cC,seval];exact bz t102.1 t102.2.1 (S.lds (b:=u) (o:=0) (n:=4) m0 (lbt rfl)))).2 ?_;exact bV.2 ⟨S.gr,_,_,_,_,rfl,by exact⟨fun h=>absurd h (by decide),fun h=>by have:=h.n1;omega⟩⟩
 have c2: ¬(16777216:Int)<(d.nodes:Int):=by omega
 have eX:((d.X.length:Nat):Int)=(d.nodes:Int):=by omega
 have eY:((d.Y.length:Nat):Int)=(d.nodes:Int):=by omega
 refine erA (n:=119) (rs:=[.cell 2 102]) e146 ?_;simp only [BZ,gc,seval];refine ag (bK (by intro x e;cases e)) S ?_;clear S;intro h l S I;simp only [ae]at S;simp only [BZ];refine ag ay S ?_;clear S;intro h u S J;simp only [BZ,c1,c2,(z.X.gr S.gr).lenq,(z.Y.gr S.gr).lenq,eX,eY,S.ld (b:=l) (o:=0) m1 rfl,S.ld (b:=l) (o:=1) m1 rfl,S.ld (b:=l) (o:=2) m1 rfl,seval];refine aD (fun(k:Nat) C h=>k<=d.nodes/\(∀j (E:j<k) (F:j<d.X.length) (Y:j<d.Y.length),(-2147483648<=d.X[j]/\d.X[j]<=2147483647)/\(-2147483648<=d.Y[j]/\d.Y[j]<=2147483647))/\St NoM D h [(u,.row [.int .i64 0,.int .i64 0,.int .i64 0,.int .i64 0] 1),(l,.row [.int .i64 d.nodes,P,Q,R] 1)] []/\C 1=ptrTo l/\C 2=ptrTo u/\C 3=.int .i64 k) (fun k=>d.nodes-k) ?_ 0 _ _ ⟨Xd _,fun j h=>absurd h (XU j),S,by simp [ao,ah]⟩;clear S;intro k T C h ⟨hk,hall,S,r1,r2,r3⟩;have w:am .i64 ((k:Int)+1)=((k+1:Nat):Int):=by rw [wrap64]<;>omega
 by_cases hlt:k<d.nodes
 . have K:k<d.X.length:=(by omega);have L:k<d.Y.length:=(by omega);obtain⟨c,o,q,s⟩:=(z.X.gr S.gr).ix (kd:=.i64) (aE .i64) K;obtain⟨c',o',A,hle⟩:=(z.Y.gr S.gr).ix (kd:=.i64) (aE .i64) L;simp only [encI]at s hle;have G: ¬(-2147483648<=d.X[k]/\d.X[k]<=2147483647)-> ¬gG d:=fun h g=>h (g.cX _ (Xs K));have H: ¬(-2147483648<=d.Y[k]/\d.Y[k]<=2147483647)-> ¬gG d:=fun h g=>h (g.cY _ (Xs L));have m:(-2147483648<=d.X[k]/\d.X[k]<=2147483647)->(-2147483648<=d.Y[k]/\d.Y[k]<=2147483647)-> ∀j (E:j<k+1) (F:j<d.X.length) (Y:j<d.Y.length),(-2147483648<=d.X[j]/\d.X[j]<=2147483647)/\(-2147483648<=d.Y[j]/\d.Y[j]<=2147483647):=fun a b j E F Y=>by
    rcases XF (XK E)with h|rfl
    . exact hall j h F Y
    . exact⟨a,b⟩
   generalize d.X[k]=x at s G m;generalize d.Y[k]=y at hle H m;by_cases M:x< -2147483648
   . skip
     simp only [BZ,r1,r2,r3,aq,hlt,q,s,M,S.ld (b:=l) (o:=0) m1 rfl,S.ld (b:=l) (o:=1) m1 rfl,S.ld (b:=l) (o:=2) m1 rfl,seval];refine au (stA S (i:=0) Tryz.t7.2.1) ?_;clear S;rintro h ⟨S,t⟩;clear t;simp only [LC,ae,lay,Xa,Xb,seval]at S;simp only [BZ,ab];refine(bF (by decide) (by simp only [az,ah,cC,r2,seval];exact bz t102.1 t102.2.1 (S.lds (b:=u) (o:=0) (n:=4) m0 (lbt rfl)))).2 ?_;exact bV.2 ⟨S.gr,_,_,_,_,rfl,by exact⟨fun h=>absurd h (by decide),fun h=>absurd h (G (by omega))⟩⟩
   by_cases U:2147483647<x
   . skip
     simp only [BZ,r1,r2,r3,aq,hlt,q,s,M,U,S.ld (b:=l) (o:=0) m1 rfl,S.ld (b:=l) (o:=1) m1 rfl,S.ld (b:=l) (o:=2) m1 rfl,seval];refine au (stA S (i:=0) Tryz.t7.2.1) ?_;clear S;rintro h ⟨S,t⟩;clear t;simp only [LC,ae,lay,Xa,Xb,seval]at S;simp only [BZ,ab];refine(bF (by decide) (by simp only [az,ah,cC,r2,seval];exact bz t102.1 t102.2.1 (S.lds (b:=u) (o:=0) (n:=4) m0 (lbt rfl)))).2 ?_;exact bV.2 ⟨S.gr,_,_,_,_,rfl,by exact⟨fun h=>absurd h (by decide),fun h=>absurd h (G (by omega))⟩⟩
   by_cases Z:y< -2147483648
   . skip
     simp only [BZ,r1,r2,r3,aq,hlt,q,s,A,hle,M,U,Z,S.ld (b:=l) (o:=0) m1 rfl,S.ld (b:=l) (o:=1) m1 rfl,S.ld (b:=l) (o:=2) m1 rfl,seval];refine au (stA S (i:=0) Tryz.t7.2.1) ?_;clear S;rintro h ⟨S,t⟩;clear t;simp only [LC,ae,lay,Xa,Xb,seval]at S;simp only [BZ,ab];refine(bF (by decide) (by simp only [az,ah,cC,r2,seval];exact bz t102.1 t102.2.1 (S.lds (b:=u) (o:=0) (n:=4) m0 (lbt rfl)))).2 ?_;exact bV.2 ⟨S.gr,_,_,_,_,rfl,by exact⟨fun h=>absurd h (by decide),fun h=>absurd h (H (by omega))⟩⟩
   by_cases y2:2147483647<y
   . skip
     simp only [BZ,r1,r2,r3,aq,hlt,q,s,A,hle,M,U,Z,y2,S.ld (b:=l) (o:=0) m1 rfl,S.ld (b:=l) (o:=1) m1 rfl,S.ld (b:=l) (o:=2) m1 rfl,seval];refine au (stA S (i:=0) Tryz.t7.2.1) ?_;clear S;rintro h ⟨S,t⟩;clear t;simp only [LC,ae,lay,Xa,Xb,seval]at S;simp only [BZ,ab];refine(bF (by decide) (by simp only [az,ah,cC,r2,seval];exact bz t102.1 t102.2.1 (S.lds (b:=u) (o:=0) (n:=4) m0 (lbt rfl)))).2 ?_;exact bV.2 ⟨S.gr,_,_,_,_,rfl,by exact⟨fun h=>absurd h (by decide),fun h=>absurd h (H (by omega))⟩⟩
   simp only [BZ,r1,r3,aq,hlt,q,s,A,hle,M,U,Z,y2,w,S.ld (b:=l) (o:=0) m1 rfl,S.ld (b:=l) (o:=1) m1 rfl,S.ld (b:=l) (o:=2) m1 rfl,seval];exact T (k+1) _ _ (by omega) ⟨by omega,m (by omega) (by omega),S,by simp [ao,r1,r2]⟩
 have N:(∀x∈d.X,-2147483648<=x/\x<=2147483647)/\(∀x∈d.Y,-2147483648<=x/\x<=2147483647):=by
  refine⟨fun x hx=>?_,fun x hx=>?_⟩
  . obtain⟨i,O,rfl⟩:=List.mem_iff_getElem.1 hx;exact(hall i (by omega) O (by omega)).1
  . obtain⟨i,O,rfl⟩:=List.mem_iff_getElem.1 hx;exact(hall i (by omega) (by omega) O).2
 have c3: ¬(67108864:Int)<(d.arcs.length:Int):=by omega
 simp only [BZ,r1,r3,aq,hlt,(z.A.gr S.gr).lenq,c3,S.ld (b:=l) (o:=0) m1 rfl,S.ld (b:=l) (o:=3) m1 rfl,seval];clear T hall w hlt hk r3;have gS:=S.gr;refine aD (fun(k:Nat) C h=>k<=d.arcs.length/\(∀j (E:j<k) (F:j<d.arcs.length),d.arcs[j].s<d.nodes/\d.arcs[j].t<d.nodes/\d.arcs[j].w<=2147483647)/\St NoM D h [(u,.row [.int .i64 0,.int .i64 0,.int .i64 0,.int .i64 0] 1),(l,.row [.int .i64 d.nodes,P,Q,R] 1)] []/\C 1=ptrTo l/\C 2=ptrTo u/\C 4=.int .i64 k) (fun k=>d.arcs.length-k) ?_ 0 _ _ ⟨Xd _,fun j h=>absurd h (XU j),S,by simp [ao,r1,ah,r2]⟩;clear S r1 r2 gS;intro k T C h ⟨hk,hall,S,r1,r2,r4⟩;have w:am .i64 ((k:Int)+1)=((k+1:Nat):Int):=by rw [wrap64]<;>omega
 by_cases hlt:k<d.arcs.length
 . obtain⟨c,o,q,s⟩:=(z.A.gr S.gr).ix (kd:=.i64) dD hlt;have V: ¬(d.arcs[k].s<d.nodes/\d.arcs[k].t<d.nodes/\d.arcs[k].w<=2147483647)-> ¬gG d:=fun h g=>h (g.arcs _ (Xs hlt));have m:(d.arcs[k].s<d.nodes/\d.arcs[k].t<d.nodes/\d.arcs[k].w<=2147483647)-> ∀j (E:j<k+1) (F:j<d.arcs.length),d.arcs[j].s<d.nodes/\d.arcs[j].t<d.nodes/\d.arcs[j].w<=2147483647:=fun a j E F=>by
    rcases XF (XK E)with h|rfl
    . exact hall j h F
    . exact a
   generalize d.arcs[k]=a at s V m;have W: ¬(a.s:Int)<0:=(by omega);have t0: ¬(a.t:Int)<0:=(by omega);have w0: ¬(a.w:Int)<0:=(by omega);simp only [BZ,r1,r4,aq,hlt,(z.A.gr S.gr).lenq,q,s,S.ld (b:=l) (o:=3) m1 rfl,seval];refine ag ay S ?_;clear S;intro h v S aa;simp only [BZ,cR,seval];refine au (stA S (i:=0) t26.2.2.1) ?_;clear S;rintro h ⟨S,t⟩;clear t;simp only [LC,ae,lay,Xa,Xb,seval]at S;by_cases X:(d.nodes:Int)<=(a.s:Int)
   . skip
     simp only [BZ,r1,r2,r4,W,X,S.ld (b:=l) (o:=0) m2 rfl,S.ld (b:=v) (o:=0) m0 rfl,S.ld (b:=v) (o:=1) m0 rfl,S.ld (b:=v) (o:=2) m0 rfl,seval];refine au (stA S (i:=1) Tryz.t7.2.1) ?_;clear S;rintro h ⟨S,t⟩;clear t;simp only [LC,ae,lay,Xa,Xb,seval]at S;simp only [BZ,ab];refine(bF (by decide) (by simp only [az,ah,cC,r2,seval];exact bz t102.1 t102.2.1 (S.lds (b:=u) (o:=0) (n:=4) m1 (lbt rfl)))).2 ?_;exact bV.2 ⟨S.gr,_,_,_,_,rfl,by exact⟨fun h=>absurd h (by decide),fun h=>absurd h (V (by omega))⟩⟩
   by_cases a2:(d.nodes:Int)<=(a.t:Int)
   . skip
     simp only [BZ,r1,r2,r4,W,t0,X,a2,S.ld (b:=l) (o:=0) m2 rfl,S.ld (b:=v) (o:=0) m0 rfl,S.ld (b:=v) (o:=1) m0 rfl,S.ld (b:=v) (o:=2) m0 rfl,seval];refine au (stA S (i:=1) Tryz.t7.2.1) ?_;clear S;rintro h ⟨S,t⟩;clear t;simp only [LC,ae,lay,Xa,Xb,seval]at S;simp only [BZ,ab];refine(bF (by decide) (by simp only [az,ah,cC,r2,seval];exact bz t102.1 t102.2.1 (S.lds (b:=u) (o:=0) (n:=4) m1 (lbt rfl)))).2 ?_;exact bV.2 ⟨S.gr,_,_,_,_,rfl,by exact⟨fun h=>absurd h (by decide),fun h=>absurd h (V (by omega))⟩⟩
   by_cases a3:(2147483647:Int)<(a.w:Int)
   . skip
     simp only [BZ,r1,r2,r4,W,t0,w0,X,a2,a3,S.ld (b:=l) (o:=0) m2 rfl,S.ld (b:=v) (o:=0) m0 rfl,S.ld (b:=v) (o:=1) m0 rfl,S.ld (b:=v) (o:=2) m0 rfl,seval];refine au (stA S (i:=1) Tryz.t7.2.1) ?_;clear S;rintro h ⟨S,t⟩;clear t;simp only [LC,ae,lay,Xa,Xb,seval]at S;simp only [BZ,ab];refine(bF (by decide) (by simp only [az,ah,cC,r2,seval];exact bz t102.1 t102.2.1 (S.lds (b:=u) (o:=0) (n:=4) m1 (lbt rfl)))).2 ?_;exact bV.2 ⟨S.gr,_,_,_,_,rfl,by exact⟨fun h=>absurd h (by decide),fun h=>absurd h (V (by omega))⟩⟩
   simp only [BZ,r1,r4,W,t0,w0,X,a2,a3,w,S.ld (b:=l) (o:=0) m2 rfl,S.ld (b:=v) (o:=0) m0 rfl,S.ld (b:=v) (o:=1) m0 rfl,S.ld (b:=v) (o:=2) m0 rfl,seval];exact T (k+1) _ _ (by omega) ⟨by omega,m (by omega),S.drop1,by simp [ao,r1,r2]⟩
 simp only [BZ,r1,r2,r4,aq,hlt,(z.A.gr S.gr).lenq,S.ld (b:=l) (o:=3) m1 rfl,seval];refine au (stA S (i:=0) Tryz.t7.2.1) ?_;clear S;rintro h ⟨S,t⟩;clear t;simp only [LC,ae,lay,Xa,Xb,seval]at S;simp only [BZ,ab];refine(bF (by decide) (by simp only [az,ah,cC,r2,seval];exact bz t102.1 t102.2.1 (S.lds (b:=u) (o:=0) (n:=4) m0 (lbt rfl)))).2 ?_;exact bV.2 ⟨S.gr,_,_,_,_,rfl,by exact⟨fun _=>⟨by omega,N.1,N.2,fun a ha=>by
  obtain⟨i,O,rfl⟩:=List.mem_iff_getElem.1 ha;exact hall i (by omega) O⟩,fun _=>rfl⟩⟩
theorem enc27_ok{s:Hp}(U:OZ s){l:List Sec}(G:aH s 2 encS v l)(hl:l.length<=16)(V: ∀x∈l,x.1<256)(hb:(l.flatMap Yf).length<=100000):cj zB 7 [v] s (.tuple #[sv (qW l),.int .i64 0]):=by
 have S:=Si U;have W: ¬((16:Int)<(l.length:Int)):=by omega
 have X:=bJ (k:=.u64) rfl (n:=l.length) (by simp only [pw];omega);refine erA (n:=77) (rs:=[.tmp 2,.tmp 3]) Tryz.e7 ?_;simp only [BZ,aV,ax,a9,G.lenq,W,X,seval];refine ar (fq S.ok (n:=l.length) (many:=1) (by omega) (by decide)) ?_;intro h g;replace S:=S.call g;have Y: ∀(t:TypeId) (p q:Operand),bQ zB .add t p q (.string ⟨#[77,73,76,69,49,1]⟩) (sv (aY 1 l.length))=some (sv (dS++aY 1 l.length)):=fun t p q=>ec (l:=dS) (m:=aY 1 l.length) (by simp [dS,bq]);simp only [BZ,Y,seval];rw [show dS++aY 1 l.length=iJ (l.take 0) l.length by simp [iJ]];refine aD (fun(k:Nat) u h=>k<=l.length/\Gr s h/\u 0=v/\u 4=sv (iJ (l.take k) l.length)/\u 5=sv ((l.take k).flatMap Yf)/\u 6=.int .i64 k) (fun k=>l.length-k) ?_ 0 _ _ ?_
 . clear S;intro k Z u h ⟨hkl,g,r0,r4,r5,r6⟩;have S:=Si g.ok;have w:am .i64 ((k:Int)+1)=((k+1:Nat):Int):=(by rw [wrap64]<;>omega);by_cases hlt:k<l.length
   . obtain⟨c,o,b,r⟩:=(G.gr g).ix (kd:=.i64) ck hlt;have y:=V l[k] (Xs hlt);have I:l.take (k+1)=l.take k++[l[k]]:=Xv hlt;have H:((l.take (k+1)).flatMap Yf).length<=(l.flatMap Yf).length:=by
      conv=>rhs;rw [<-YW (k+1) l,XD,Xi]
      omega
     rw [I,XD,Xi]at H;simp only [Xc,Xf,YB]at H;have lh:(iJ (l.take k) l.length).length<=300:=(by have:(l.take k).length<=16:=(by rw [Xy];omega);simp only [iJ,Xi,bq,wD,dS,Yx,X3];omega);have J:iJ (l.take (k+1)) l.length=iJ (l.take k) l.length++entB l[k]:=(by unfold iJ;rw [I,XD];simp);have K:(l.take (k+1)).flatMap Yf=(l.take k).flatMap Yf++l[k].2:=(by rw [I,XD];simp);generalize l[k]=x at r y J K H;obtain⟨e,a⟩:=x;simp only []at y J K H;have d:_=some [Value.int .i64 (e:Int)]:=dz r (i:=0) (m:=1) (by decide);have L:_=some [sv a]:=dz r (i:=1) (m:=1) (by decide);rw [Yq]at d;have k0: ¬((e:Int)<0):=(by omega);have k1: ¬((255:Int)<(e:Int)):=(by omega);have wk:=bJ (k:=.u64) rfl (n:=e) (by simp only [pw];omega);have wb:=bJ (k:=.u64) rfl (n:=a.length) (by simp only [pw];omega);have cl:=vu a;have M:=bJ (k:=.u64) rfl (n:=crc a) (by simp only [pw];omega);simp only [BZ,r0,r6,G.lenq,aq,hlt,b,d,k0,k1,seval];refine av (aB rfl) (q:=0) (ps:=[(16,22),(7,22),(7,14),(7,13)]) (by kernel_rfl) ?_;simp only [BZ,aV,ax,a9,cls,r0,r4,r6,b,d,wk,seval];have z:=Xt (bU g.ok d) (XA _);refine da (fq S.ok (n:=e) (many:=1) (by omega) (by decide)) ?_;intro h1 A;have P:=aI A z;have f:=A.load L;have B:=Xt z A.n;simp only [BZ,aV,ax,a9,cls,r0,r6,b,f,cw,wb,ec (l:=iJ (l.take k) l.length) (m:=aY 1 e) (by rw [bq];omega),seval];refine da (fq A.ok (n:=a.length) (many:=8) (by omega) (by decide)) ?_;intro h2 C;have Q:=aI C B;have j:=C.load f;have D:=Xt B C.n;simp only [BZ,cls,r0,r6,b,j,ec (l:=iJ (l.take k) l.length++aY 1 e) (m:=aY 8 a.length) (by simp [bq];omega),seval];refine da (uV C.ok (l:=a) (by omega)) ?_;intro h3 E;have R:=aI E D;have N:=Xt D E.n;simp only [BZ,aV,ax,a9,cls,M,seval];refine da (fq E.ok (n:=crc a) (many:=4) (by omega) (by decide)) ?_;intro h4 g4;have T:=aI g4 N;have ga:=g.trans (A.trans (C.trans (E.trans g4)));have O:=g4.load (E.load j);simp only [BZ,cls,r0,r5,r6,ec (l:=iJ (l.take k) l.length++aY 1 e++aY 8 a.length) (m:=aY 4 (crc a)) (by simp [bq];omega),seval];refine⟨by simp only [aR,aZ,aM,bo,aP,ne_eq,not_false_eq_true,bj,bH,aQ,aO,bS,cq,az,Xh,r0,r6,b,ah,sI,sv,kQ,sK,vI,aG P,aJ P,aG Q,aJ Q,aG R,aJ R,aG T,aJ T,seval],?_⟩;simp only [BZ,r6,b,O,ec (l:=(l.take k).flatMap Yf) (m:=a) (by omega),w,seval];refine Z (k+1) _ _ (by omega) ⟨by omega,ga,by simp [ao,r0],?_,?_,by simp [ao]⟩
     . simp only [az,seval];rw [J];simp only [entB,Xz]
     . simp only [az,seval];rw [K]
   . have:k=l.length:=(by omega);subst this;rw [YI]at r4 r5;have hh:iJ l l.length=i9 l:=rfl;rw [hh]at r4;have cl:=vu (i9 l);have F:=wG l;have M:=bJ (k:=.u64) rfl (n:=crc (i9 l)) (by simp only [pw];omega);simp only [BZ,r0,r4,r6,G.lenq,aq,hlt,seval];refine ar (uV S.ok (l:=i9 l) (by omega)) ?_;intro h g;replace S:=S.call g;clear g;simp only [BZ,aV,ax,a9,M,seval];refine ar (fq S.ok (n:=crc (i9 l)) (many:=4) (by omega) (by decide)) ?_;intro h g;replace S:=S.call g;clear g;simp only [BZ,ab,r5,ec (l:=i9 l) (m:=aY 4 (crc (i9 l))) (by rw [bq,F];omega),ec (l:=i9 l++aY 4 (crc (i9 l))) (m:=l.flatMap Yf) (by rw [Xi,bq,F];omega),seval];exact⟨by unfold qW;rw [Xz],g.trans S.gr⟩
 . exact⟨Xd _,S.gr,by simp [ao,cC],by simp [ao],by simp [ao];rfl,by simp [ao]⟩
theorem St.outG{d:Hp}(S:St M d h L ((.slice (some ⟨b,0,some k⟩) n n,k,vs)::G)):St M d h ((b,.row vs 1)::L) G:=by
 obtain⟨f,g⟩:=S.gown _ m0;have R:Row h b vs 1:=by
  rcases f with⟨e,_⟩|⟨c,m,e,_,R⟩
  . cases e
  . cases e;exact R
 refine⟨S.fr,fun p a=>?_,fun p a=>S.gown p (.tail _ a),?_⟩
 . rcases List.mem_cons.1 a with rfl|a
   . exact⟨g b rfl,R⟩
   . exact S.own p a
 . have:=S.apart;unfold keys at this⊢;rw [List.filterMap_cons]at this;exact(List.perm_middle.nodup_iff).1 this
theorem A9(b:Bs): ∀(l:List Sec) (i:Nat) (h:i<l.length),(l.flatMap encS).set (2*i+1) (sv b)=(l.set i (l[i].1,b)).flatMap encS
 | [],i,h=>by simp at h|x::l,0,h=>rfl| x::l,i+1,h=>by have:=A9 b l i (by simpa using h);rw [show 2*(i+1)+1=2*i+1+1+1 by omega];simp only [Xc,encS,List.cons_append,List.nil_append,YE,Yu];rw [this]
def jV(s:Bs)(n i:Nat):List Sec:=(zM n).map fun j=>if j<i then fh s j else((cJ s j).1,[])
theorem ol(s:Bs)(n i:Nat):(jV s n i).length=n:=by simp [jV]
theorem secP_succ(h:i<n):(jV s n i).set i (((jV s n i)[i]'(by rw [ol];exact h)).1,(s.drop (i6 s i)).take (cJ s i).2.1)=jV s n (i+1):=by
 refine YH (by simp [jV]) fun j b a=>?_;have c:j<n:=by simpa [jV]using a
 rw [List.getElem_set];by_cases e:i=j
 . subst e;simp [jV,fh]
 . rw [if_neg e];simp only [jV,Yj,Yc];by_cases hlt:j<i
   . rw [if_pos hlt,if_pos (by omega)]
   . rw [if_neg hlt,if_neg (by omega)]
theorem secP_all(s:Bs)(n:Nat):jV s n n=(zM n).map (fh s):=by refine XO fun j a=>?_;rw [if_pos (List.mem_range.1 a)]
theorem AC{k:IntKind}(l:List Nat)(x:Nat->Int):(l.map fun j=>Value.int k (x j))=(l.map x).flatMap (encI k):=by
 induction l with
 |nil=>rfl|cons a l b=>simp only [Xr,Xc,b];rfl
theorem q6n(l:Bs)(t:TypeId)(p q:Operand):bQ zB .neq t p q (sv l) (.string ⟨#[77,73,76,69,49,1]⟩)=some (.bool (!decide (l=dS))):=Cf (l:=l) (m:=dS)
theorem dec27_ok{J:Hp}(ok:OZ J)(hs:s.length<=1000000):Ret zB 86 [sv s] J fun r h'=>Gr J h'/\match kU s with
 | .ok l=> ∃v,r=.tuple #[v,.int .i64 0]/\SlK h' 2 encS v l| .error e=>r=.tuple #[.slice none 0 0,.int .i64 (if e=true then 24 else 23)]:=by
 have S:=Si ok;have bad: ∀{h:Hp},¬jJ s->Gr J h->Gr J h/\match kU s with
  | .ok l=> ∃v,(Value.tuple #[.slice none 0 0,.int .i64 23])=.tuple #[v,.int .i64 0]/\SlK h 2 encS v l| .error e=>(Value.tuple #[.slice none 0 0,.int .i64 23])=.tuple #[.slice none 0 0,.int .i64 (if e=true then 24 else 23)]:=fun u g=>by
  have e:kU s=.error false:=by unfold kU;rw [if_neg u]
  rw [e];exact⟨g,rfl⟩
 have bd:=jc (s:=s) (a:=0) (n:=6) (bad:=false);refine erA (n:=131) (rs:=[.tmp 2,.tmp 3]) e86 ?_;simp only [BZ,gP (l:=s),seval];refine ag (bK (by intro x e;cases e)) S ?_;clear S;intro h K S bb;simp only [ae]at S;simp only [BZ,seval];refine step_ret (vH (s:=s) (a:=0) (n:=6) (F:=(0,0,0,0)) (bad:=false) S (i:=0) rfl rfl (Xd _) hs (by decide)) ?_;rintro _ h ⟨rfl,F,t,S⟩;simp only [LC,Xc,Xf]at S;by_cases h6:(aT s 0 false 6).1=dS;rotate_left
 . simp only [BZ,ab,q6n,h6,seval];refine bad (fun u=>h6 ?_) S.gr;have l6:6<=s.length:=(by have:=u.2.1;omega);rw [c6 (by omega)];exact u.1
 have l6:6<=s.length:=by refine Nat.le_of_not_lt fun hl=>?_;rw [jN (.inr (by omega))]at h6;cases h6
 rw [c6 (by omega)]at t S;simp only [Xj,Xl]at t S;have en:=many_tk s;have bc:bC s<256:=jG (k:=1) (by simp;omega);have wn:am .i64 ((bC s:Nat):Int)=(bC s:Int):=by rw [wrap64]<;>omega
 simp only [BZ,q6n,h6,seval];refine step_ret (p9 (s:=s) (a:=6) (many:=1) (bad:=false) S (i:=0) rfl t l6 hs (by decide)) ?_;rintro _ h ⟨rfl,L,f,S⟩;simp only [LC,Xc,Xf]at S;rw [en];change(stE s 0).2=_ at f;change St NoM J h [(K,.row (rfC s (stE s 0).1 L) 1)] []at S;clear t;generalize P:bC s=n at*
 simp only [BZ,aV,ax,a9,wn,seval];replace S:=((S.nilG (k:=1)).nilG (k:=1)).nilG (k:=2);refine iS (fun p h=> ∃(F:Int×Int×Int×Int) (M C D:Value),(stE s (min n 17)).2= !decide (F.1=0)/\St NoM J h [(K,.row (rfC s (stE s (min n 17)).1 F) 1)] [(M,2,((zM (min n 17)).map fun j=>((enG s j).1,([]:Bs))).flatMap encS),(C,1,(zM (min n 17)).map fun j=>.int .u32 ((enG s j).2.2:Nat)),(D,1,(zM (min n 17)).map fun j=>.int .u64 ((enG s j).2.1:Nat))]/\p 0=sv s/\p 4=ptrTo K/\p 5=.int .i64 n/\p 6=M/\p 7=C/\p 8=D)
  (fun(k:Nat) p h=>k<=min n 17/\ ∃(F:Int×Int×Int×Int) (M C D:Value),(stE s k).2= !decide (F.1=0)/\St NoM J h [(K,.row (rfC s (stE s k).1 F) 1)] [(M,2,((zM k).map fun j=>((enG s j).1,([]:Bs))).flatMap encS),(C,1,(zM k).map fun j=>.int .u32 ((enG s j).2.2:Nat)),(D,1,(zM k).map fun j=>.int .u64 ((enG s j).2.1:Nat))]/\p 0=sv s/\p 4=ptrTo K/\p 5=.int .i64 n/\p 6=M/\p 7=C/\p 8=D/\p 9=.int .i64 k) (fun k=>17-k) ?_ ?_ 0 ⟨Xd _,L,_,_,_,f,S,by simp [ao,cC,ah]⟩
 . clear S f;intro k ih p h ⟨hk,F,M,C,D,t,S,r0,r4,r5,r6,r7,r8,r9⟩;have w:am .i64 ((k:Int)+1)=((k+1:Nat):Int):=(by rw [wrap64]<;>omega);by_cases hlt:k<min n 17
   . have B:(k:Int)<(n:Int):=(by omega);have R:(k:Int)<=16:=(by omega);have e1:=enG_lt s k;have eS:stE s (k+1)=(aT s (aT s (aT s (stE s k).1 (stE s k).2 1).2.1 (aT s (stE s k).1 (stE s k).2 1).2.2 8).2.1 (aT s (aT s (stE s k).1 (stE s k).2 1).2.1 (aT s (stE s k).1 (stE s k).2 1).2.2 8).2.2 4).2:=rfl;have T:enG s k=(aS (aT s (stE s k).1 (stE s k).2 1).1,aS (aT s (aT s (stE s k).1 (stE s k).2 1).2.1 (aT s (stE s k).1 (stE s k).2 1).2.2 8).1,aS (aT s (aT s (aT s (stE s k).1 (stE s k).2 1).2.1 (aT s (stE s k).1 (stE s k).2 1).2.2 8).2.1 (aT s (aT s (stE s k).1 (stE s k).2 1).2.1 (aT s (stE s k).1 (stE s k).2 1).2.2 8).2.2 4).1):=rfl;have a1:=zH l6 k;simp only [BZ,r4,r5,r6,r9,B,R,seval];refine step_ret (p9 (s:=s) (many:=1) S (i:=0) rfl t a1 hs (by decide)) ?_;clear S t;rintro _ h ⟨rfl,F,t,S⟩;simp only [LC,Xc,Xf]at S;have a2:=mJ (n:=1) (bad:=(stE s k).2) a1;generalize aT s (stE s k).1 (stE s k).2 1=q1 at*
     obtain⟨x1,p1,b1⟩:=q1;simp only []at eS T t S a2⊢;have be:aS x1<256:=(by have:=e1.1;rw [T]at this;exact this);have w1:am .i64 ((aS x1:Nat):Int)=((aS x1:Nat):Int):=(by rw [wrap64]<;>omega);simp only [BZ,aV,ax,a9,w1,seval];refine ag (bD (by exact t33.1) (by exact Yz) (by decide) (by rfl)) S ?_;clear S;intro h U S V;simp only [LC,bA,bN,ae,Xo,Xl,Xk,Xq,seval]at S;have y:aF h 2 (.slice (some ⟨U,0,none⟩) 1 1)=some (1,encS (aS x1,[])):=(by simp only [aF];rw [S.lds (b:=U) (o:=0) (n:=1*2) m0 (lbt rfl)];rfl);replace S:=S.drop1;simp only [BZ,seval];refine dq (S.grow (j:=0) (m:=1) (new:=encS (aS x1,[])) rfl t33.1 Yz (by decide) t33.2.2.2.2.2 y rfl (by decide) rfl (by rw [aK ck,ck,List.length_map,List.length_range];omega)) ?_;clear S y;rintro h al S;simp only [LC,Xc,Xf]at S;simp only [BZ,r4,r8,seval];refine step_ret (p9 (s:=s) (many:=8) S (i:=0) rfl t a2 hs (by decide)) ?_;clear S t;rintro _ h ⟨rfl,F,t,S⟩;simp only [LC,Xc,Xf]at S;have a3:=mJ (n:=8) (bad:=b1) a2;generalize aT s p1 b1 8=q2 at*
     obtain⟨x2,p2,b2⟩:=q2;simp only []at eS T t S a3⊢;simp only [BZ,seval];refine ag (bD (by exact t173.1) (by exact e74E) (by decide) (by rfl)) S ?_;clear S;intro h U S V;simp only [LC,bA,bN,ae,Xo,Xl,Xk,Xq,seval]at S;have y:aF h 1 (.slice (some ⟨U,0,none⟩) 1 1)=some (1,[.int .u64 (aS x2:Nat)]):=(by simp only [aF];rw [S.lds (b:=U) (o:=0) (n:=1*1) m0 (lbt rfl)];rfl);replace S:=S.drop1;simp only [BZ,seval];refine dq (S.grow (j:=2) (m:=1) (new:=[.int .u64 (aS x2:Nat)]) rfl t173.1 e74E (by decide) t173.2.2.2.2.2 y rfl (by decide) rfl (by simp;omega)) ?_;clear S y;rintro h an S;simp only [LC,Xc,Xf]at S;simp only [BZ,r4,r7,seval];refine step_ret (p9 (s:=s) (many:=4) S (i:=0) rfl t a3 hs (by decide)) ?_;clear S t;rintro _ h ⟨rfl,F,t,S⟩;simp only [LC,Xc,Xf]at S;generalize aT s p2 b2 4=q3 at*
     obtain⟨x3,p3,b3⟩:=q3;simp only []at eS T t S⊢;have bf:aS x3<4294967296:=(by have:=e1.2.2;rw [T]at this;exact this);have w3:=bJ (k:=.u32) rfl (n:=aS x3) (by simp only [pw];omega);simp only [BZ,aV,ax,a9,w3,seval];refine ag (bD (by exact t175.1) (by exact e78E) (by decide) (by rfl)) S ?_;clear S;intro h U S V;simp only [LC,bA,bN,ae,Xo,Xl,Xk,Xq,seval]at S;have y:aF h 1 (.slice (some ⟨U,0,none⟩) 1 1)=some (1,[.int .u32 (aS x3:Nat)]):=(by simp only [aF];rw [S.lds (b:=U) (o:=0) (n:=1*1) m0 (lbt rfl)];rfl);replace S:=S.drop1;simp only [BZ,seval];refine dq (S.grow (j:=1) (m:=1) (new:=[.int .u32 (aS x3:Nat)]) rfl t175.1 e78E (by decide) t175.2.2.2.2.2 y rfl (by decide) rfl (by simp;omega)) ?_;clear S y;rintro h aL S;simp only [LC,Xc,Xf]at S;simp only [BZ,r9,w,seval];refine ih (k+1) _ _ (by omega) ⟨by omega,F,al,aL,an,by rw [eS];exact t,?_,by simp [ao,r0,r4,r5]⟩;have m1:((zM (k+1)).map fun j=>((enG s j).1,([]:Bs))).flatMap encS=((zM k).map fun j=>((enG s j).1,([]:Bs))).flatMap encS++encS (aS x1,[]):=(by rw [XL,Xx,XD];simp [T]);have m2:((zM (k+1)).map fun j=>Value.int .u32 ((enG s j).2.2:Nat))=((zM k).map fun j=>Value.int .u32 ((enG s j).2.2:Nat))++[.int .u32 (aS x3:Nat)]:=(by rw [XL,Xx];simp [T]);have m3:((zM (k+1)).map fun j=>Value.int .u64 ((enG s j).2.1:Nat))=((zM k).map fun j=>Value.int .u64 ((enG s j).2.1:Nat))++[.int .u64 (aS x2:Nat)]:=(by rw [XL,Xx];simp [T]);rw [m1,m2,m3,eS];exact S
   . have a0:k=min n 17:=(by omega);subst a0;by_cases W:n<=16
     . have B: ¬(((min n 17:Nat):Int)<(n:Int)):=(by omega);simp only [BZ,r5,r9,B,seval];exact cK ⟨F,M,C,D,t,S,by simp [ao,r0,r4,ah,r5,r6,r7,r8]⟩
     . have B:(((min n 17:Nat):Int)<(n:Int))\/n=17:=(by omega);have R: ¬(((min n 17:Nat):Int)<=16):=(by omega);rcases B with B|B
       . simp only [BZ,r5,r9,B,R,seval];exact cK ⟨F,M,C,D,t,S,by simp [ao,r0,r4,ah,r5,r6,r7,r8]⟩
       . have B: ¬(((min n 17:Nat):Int)<(n:Int)):=(by omega);simp only [BZ,r5,r9,B,seval];exact cK ⟨F,M,C,D,t,S,by simp [ao,r0,r4,ah,r5,r6,r7,r8]⟩
 clear S f;intro p h ⟨F,M,C,D,t,S,r0,r4,r5,r6,r7,r8⟩;have a1:=zH l6 (min n 17);simp only [BZ,r4,S.ld (b:=K) (o:=1) m0 rfl,seval];refine step_ret (p9 (s:=s) (many:=4) S (i:=0) rfl t a1 hs (by decide)) ?_;clear S;rintro _ h ⟨rfl,L,f,S⟩;simp only [LC,Xc,Xf]at S;have t4:=jc (s:=s) (a:=(stE s (min n 17)).1) (n:=4) (bad:=(stE s (min n 17)).2);have g4:aS (aT s (stE s (min n 17)).1 (stE s (min n 17)).2 4).1<4294967296:=jG (k:=4) t4;have w4:=bJ (k:=.u32) rfl (n:=aS (aT s (stE s (min n 17)).1 (stE s (min n 17)).2 4).1) (by simp only [pw];omega);by_cases W:n<=16;rotate_left
 . have B:(16:Int)<(n:Int):=(by omega);simp only [BZ,aV,ax,a9,ab,r5,w4,B,seval];exact bad (fun u=>W (by have:=u.2.2.1;omega)) S.gr
 have B: ¬(16:Int)<(n:Int):=by omega
 rw [show min n 17=n by omega]at*
 by_cases hl:11+13*n<=s.length;rotate_left
 . have fb:=Ci (s:=s) (n:=n) (by omega);rw [fb]at f;have R: ¬L.1=0:=fun e=>(by rw [decide_eq_true e]at f;cases f);simp only [BZ,aV,ax,a9,ab,r4,r5,w4,B,R,S.ld (b:=K) (o:=2) m0 rfl,seval];exact bad (fun u=>hl (by have:=u.2.2.2.1;rw [P]at this;exact this)) S.gr
 have es:=vP (s:=s) n (by omega);rw [es]at f S w4⊢;simp only []at f S w4⊢;rw [c6 (by omega)]at f S w4⊢;simp only []at f S w4⊢;have N:L.1=0:=by
  cases O:decide (L.1=0)with
  |true=>exact of_decide_eq_true O|false=>rw [O]at f;cases f
 clear t4 g4 f t es a1;rw [show 7+13*n+4=11+13*n by omega]at S;have er: ∀j∈zM n,enG s j=cJ s j:=fun j A=>enG_eq (by have:=List.mem_range.1 A;omega);rw [show((zM n).map fun j=>((enG s j).1,([]:Bs)))=jV s n 0 from XO fun j A=>by rw [er j A,if_neg (XU j)],AC (zM n) fun j=>(((enG s j).2.2:Nat):Int),AC (zM n) fun j=>(((enG s j).2.1:Nat):Int),XO (fun j A=>by rw [er j A]: ∀j∈zM n,(((enG s j).2.2:Nat):Int)=(((cJ s j).2.2:Nat):Int)),XO (fun j A=>by rw [er j A]: ∀j∈zM n,(((enG s j).2.1:Nat):Int)=(((cJ s j).2.1:Nat):Int))]at S;have R:(L.1=0)=True:=eq_true N;have cl:=vu (s.take (7+13*n));have ss:=fun(h1:7+13*n<=s.length)=>qw (E:=zB) (l:=s) (k:=.i64) (b:=7+13*n) Tryz.t9.1 h1;simp only [BZ,aV,ax,a9,XC,XG,r0,r4,r5,w4,B,R,S.ld (b:=K) (o:=2) m0 rfl,ss (by omega),seval];refine ar (uV S.ok (l:=s.take (7+13*n)) (by rw [Xy];omega)) ?_;intro h g;replace S:=S.call g;by_cases hc:aS ((s.drop (7+13*n)).take 4)=crc (s.take (7+13*n));rotate_left
 . have a4: ¬((aS ((s.drop (7+13*n)).take 4):Nat):Int)=((crc (s.take (7+13*n)):Nat):Int):=(by omega);simp only [BZ,ab,a4,seval];exact bad (fun u=>hc (by have:=u.2.2.2.2.1;rw [P]at this;exact this)) S.gr
 generalize aa:s.length-(11+13*n)=d;have wr:am .i64 ((s.length:Int)-((11+13*n:Nat):Int))=(d:Int):=by rw [wrap64]<;>omega
 have a5:=bJ (k:=.u64) rfl (n:=d) (by simp only [pw];omega);have a6:s.take 6=dS:=by rw [c6 (by omega)]at h6;exact h6
 have O:jJ s↔dg s n=d:=by
  constructor
  . intro u;have:=(pq u).2.2.2.2;rw [P]at this;omega
  . intro hL;refine⟨a6,by omega,by omega,by omega,by rw [P];exact hc,?_⟩;rw [yZ,<-tC,P,hL,aa]
 have X: ∀k,dg s k<=dg s n:=fun k=>by have:=yk s k;rw [P]at this;exact this
 simp only [BZ,aV,ax,a9,r0,r4,hc,cw,wr,a5,S.ld (b:=K) (o:=1) m0 rfl,seval];refine aD (fun(k:Nat) p h=>k<=n/\dg s k<=d/\St NoM J h [(K,.row (rfC s (11+13*n) L) 1)] [(M,2,(jV s n 0).flatMap encS),(C,1,((zM n).map fun j=>(((cJ s j).2.2:Nat):Int)).flatMap (encI .u32)),(D,1,((zM n).map fun j=>(((cJ s j).2.1:Nat):Int)).flatMap (encI .u64))]/\p 0=sv s/\p 4=ptrTo K/\p 5=.int .i64 n/\p 6=M/\p 7=C/\p 8=D/\p 12=.int .u64 (d-dg s k:Nat)/\p 13=.int .i64 k) (fun k=>n-k) ?_ 0 _ _ ⟨Xd _,Xd _,S,by simp [ao,r0],by simp [ao,r4,ah],by simp [ao,r5],by simp [ao,r6],by simp [ao,r7],by simp [ao,r8],by simp [ao];rfl,by simp [ao]⟩;clear S r0 r4 r5 r6 r7 r8;intro k ih p h ⟨hk,hkl,S,r0,r4,r5,r6,r7,r8,r12,r13⟩;have w:am .i64 ((k:Int)+1)=((k+1:Nat):Int):=by rw [wrap64]<;>omega
 by_cases hlt:k<n
 . have ac:=(S.gown _ m2).1.sl (xs:=(zM n).map fun j=>(((cJ s j).2.1:Nat):Int)) rfl (aE .u64) (by decide);obtain⟨c,o,G,z⟩:=ac.ix (kd:=.i64) (aE .u64) (i:=k) (by simpa using hlt);rw [Yj,Yc]at z;simp only [encI]at z;have ls:=rq (s:=s) (k:=k) (by omega);have m1:=X (k+1);by_cases hg:d-dg s k<(cJ s k).2.1
   . have a7:((d-dg s k:Nat):Int)<(((cJ s k).2.1:Nat):Int):=(by omega);simp only [BZ,ab,r5,r8,r12,r13,aq,hlt,G,z,hg,seval];exact bad (fun u=>by have:=O.1 u;omega) S.gr
   . have a7: ¬((d-dg s k:Nat):Int)<(((cJ s k).2.1:Nat):Int):=(by omega);have wl:am .u64 (((d-dg s k:Nat):Int)-(((cJ s k).2.1:Nat):Int))=((d-dg s (k+1):Nat):Int):=(by rw [show(((d-dg s k:Nat):Int)-(((cJ s k).2.1:Nat):Int))=((d-dg s (k+1):Nat):Int) by omega,bJ (k:=.u64) rfl];simp only [pw];omega);simp only [BZ,r5,r8,r12,r13,aq,hlt,G,z,hg,wl,w,seval];exact ih (k+1) _ _ (by omega) ⟨by omega,by omega,S,by simp [ao,r0,r4,r5,r6,r7,r8]⟩
 obtain rfl:k=n:=by omega
 by_cases hL:dg s k=d;rotate_left
 . have Q:(0:Int)<((d-dg s k:Nat):Int):=(by omega);simp only [BZ,ab,r5,r12,r13,aq,hlt,Q,seval];exact bad (fun u=>hL (O.1 u)) S.gr
 have Q: ¬(0:Int)<((d-dg s k:Nat):Int):=by omega
 have u:=O.2 hL;clear ih hkl O bad w hk;have af: ∀j,j<k->(cJ s j).2.1<=d:=fun j A=>by have:=rq (s:=s) (k:=j) (by omega);have:=X (j+1);omega
 have Y:=wU u;simp only [BZ,r5,r12,r13,aq,hlt,Q,seval];clear Q hlt;have ai: ∀{h:Hp} {v:Value},(∀j,j<k->crc (fh s j).2=(cJ s j).2.2)->Gr J h->SlK h 2 encS v (jV s k k)->Gr J h/\match kU s with
  | .ok l=> ∃v',(Value.tuple #[v,.int .i64 0])=.tuple #[v',.int .i64 0]/\SlK h 2 encS v' l| .error e=>(Value.tuple #[v,.int .i64 0])=.tuple #[.slice none 0 0,.int .i64 (if e=true then 24 else 23)]:=fun H g sl=>by
  rw [Y,bodF_ok (by rw [P];exact H),P];exact⟨g,_,rfl,by rw [<-secP_all];exact sl⟩
 rcases Nat.eq_zero_or_pos k with k0|k0
 . have kk: ¬((0:Int)<(k:Int)):=(by omega);rw [d9];simp only [BZ,ab,r5,r6,kk,seval];have sl:=(S.gown _ m0).1.slk (xs:=jV s k 0) rfl ck (by decide);exact ai (fun j A=>absurd A (by omega)) S.gr (by rw [show jV s k k=jV s k 0 by rw [k0]];exact sl)
 obtain⟨b6,rfl⟩: ∃b6,M=.slice (some ⟨b6,0,some 2⟩) k k:=by
  rcases(S.gown _ m0).1 with⟨_,e⟩|⟨b,m,e,hm,_⟩
  . have:=congrArg List.length e;simp only [aK ck,ol,X3]at this;omega
  . simp only [aK ck,ol]at hm e;have:m=k:=(by omega);subst this;exact⟨b,e⟩
 replace S:=S.outG;have ak:i6 s 0=11+13*k:=by unfold i6 dg;rw [P];simp
 rw [<-ak]at S;refine aD (fun(i:Nat) p h=>i<=k/\(∀j,j<i->crc (fh s j).2=(cJ s j).2.2)/\ ∃F:Int×Int×Int×Int,F.1=0/\St NoM J h [(b6,.row ((jV s k i).flatMap encS) 1),(K,.row (rfC s (i6 s i) F) 1)] [(C,1,((zM k).map fun j=>(((cJ s j).2.2:Nat):Int)).flatMap (encI .u32)),(D,1,((zM k).map fun j=>(((cJ s j).2.1:Nat):Int)).flatMap (encI .u64))]/\p 0=sv s/\p 4=ptrTo K/\p 5=.int .i64 k/\p 6=.slice (some ⟨b6,0,some 2⟩) k k/\p 7=C/\p 8=D/\p 14=.int .i64 i) (fun i=>k-i) ?_ 0 _ _ ⟨Xd _,fun j A=>absurd A (XU j),L,N,S,by simp [ao,r0,r4,r5,r6,r7,r8]⟩;clear S r0 r4 r5 r6 r7 r8 r12 r13 N R;intro i ih p h ⟨hi,H,F,t,S,r0,r4,r5,r6,r7,r8,r14⟩;have w:am .i64 ((i:Int)+1)=((i+1:Nat):Int):=by rw [wrap64]<;>omega
 by_cases hlt:i<k
 . have ac:=(S.gown _ m1).1.sl (xs:=(zM k).map fun j=>(((cJ s j).2.1:Nat):Int)) rfl (aE .u64) (by decide);obtain⟨c,o,G,z⟩:=ac.ix (kd:=.i64) (aE .u64) (i:=i) (by simpa using hlt);rw [Yj,Yc]at z;simp only [encI]at z;have hr:=af i hlt;have o1:=wR (s:=s) (k:=i) (by omega);have o2:=offF_le u (i+1);have wl:am .i64 (((cJ s i).2.1:Nat):Int)=(((cJ s i).2.1:Nat):Int):=(by rw [wrap64]<;>omega);have se:(fh s i).2=(s.drop (i6 s i)).take (cJ s i).2.1:=rfl;have sp:=secP_succ (s:=s) hlt;have fs:=A9 ((s.drop (i6 s i)).take (cJ s i).2.1) (jV s k i) i (by rw [ol];exact hlt);rw [sp]at fs;have ll:((jV s k i).flatMap encS).length=k*2:=(by rw [aK ck,ol]);simp only [BZ,aV,ax,a9,r4,r5,r6,r8,r14,aq,hlt,G,z,wl,seval];refine step_ret (vH (s:=s) (n:=(cJ s i).2.1) (bad:=false) S (i:=1) rfl (by rw [decide_eq_true t];rfl) (by omega) hs (by omega)) ?_;clear S;rintro _ h ⟨rfl,L,f,S⟩;rw [c6 (by omega)]at f S⊢;simp only [LC,Xc,Xf]at S;simp only []at f S⊢;rw [<-o1]at S;have N:L.1=0:=by
    cases O:decide (L.1=0)with
    |true=>exact of_decide_eq_true O|false=>rw [O]at f;cases f
   simp only [BZ,ey hlt,seval];refine au (aw S (i:=0) rfl Tryz.t9.2.2.1 gP (by rw [ll];omega) ono) ?_;clear S;rintro h ⟨S,_⟩;simp only [LC,Xc,Xf]at S;rw [show i*2+1=2*i+1 by omega,fs]at S;have bh:((jV s k (i+1)).flatMap encS).length=k*2:=(by rw [aK ck,ol]);have a8:h.load b6 (i*2+1) 1=some [sv (fh s i).2]:=(by refine S.ld m0 ?_;rw [<-fs,show i*2+1=2*i+1 by omega,Yv (by rw [ll];omega),se]);have ba:=(S.gown _ m0).1.sl (xs:=(zM k).map fun j=>(((cJ s j).2.2:Nat):Int)) rfl (aE .u32) (by decide);obtain⟨c',o',I,hle⟩:=ba.ix (kd:=.i64) (aE .u32) (i:=i) (by simpa using hlt);rw [Yj,Yc]at hle;simp only [encI]at hle;have kc:=bU S.ok hle;simp only [BZ];refine av (aB rfl) (q:=0) (ps:=[(5,9)]) (by kernel_rfl) ?_;simp only [BZ,cls,r6,r14,ey hlt,a8,seval];refine da (uV S.ok (l:=(fh s i).2) (by rw [se,Xy,YJ];omega)) ?_;intro h gx;have v1:=aI gx kc;replace S:=S.call gx;by_cases ad:crc (fh s i).2=(cJ s i).2.2
   . have Z:((crc (fh s i).2:Nat):Int)=(((cJ s i).2.2:Nat):Int):=(by omega);simp only [BZ,cls,r7,r14,I,gx.load hle,ad,seval];refine⟨by simp only [aR,aZ,aM,bo,aP,ne_eq,not_false_eq_true,bj,bH,aQ,aO,bS,cq,az,Xh,r7,r14,ah,I,aG v1,aJ v1,seval],?_⟩;simp only [w];refine ih (i+1) _ _ (by omega) ⟨by omega,fun j A=>?_,L,N,S,by simp [ao,r0,r4,r5,r6,r7,r8]⟩;rcases XF (XK A)with A|rfl
     . exact H j A
     . exact ad
   . have Z: ¬((crc (fh s i).2:Nat):Int)=(((cJ s i).2.2:Nat):Int):=(by omega);simp only [BZ,cls,ab,r7,r14,I,gx.load hle,Z,seval];refine⟨by simp only [aR,aZ,aM,bo,aP,ne_eq,not_false_eq_true,bj,bH,aQ,aO,bS,cq,az,Xh,r7,r14,ah,I,aG v1,aJ v1,seval],?_⟩;rw [Y,bodF_no (by omega) ad];exact⟨S.gr,rfl⟩
 . obtain rfl:i=k:=(by omega);simp only [BZ,ab,r5,r6,r14,aq,Nat.lt_irrefl,seval];have G0:kB h (.slice (some ⟨b6,0,some 2⟩) i i,2,(jV s i i).flatMap encS):=.inr ⟨b6,i,rfl,by rw [aK ck,ol],S.row m0⟩;exact ai H S.gr (G0.slk rfl ck (by decide))
theorem kT{c:Hp}(S:St M c hq L G){many:Nat}{F:Int×Int×Int×Int}(f:L[i]? =some (b,.row (rfC s a F) 1))(hf:F.1=0)(g:a+many<=s.length)(hs:s.length<=1000000)(j:many<=8):Ret zB 145 [ptrTo b,.int .i64 (many:Nat)] hq fun r h'=>r=.int .u64 (aS ((s.drop a).take many):Nat)/\ ∃F':Int×Int×Int×Int,F'.1=0/\St M c h' (L.set i (b,.row (rfC s (a+many) F') 1)) G:=by
 refine iz (p9 (bad:=false) S f (by rw [decide_eq_true hf];rfl) (by omega) hs j) ?_;rintro r h ⟨d,F',e,S⟩;rw [c6 g]at d e S;exact⟨d,F',by simpa using e,S⟩
theorem g4_lt(s:Bs)(a:Nat):g4 s a<4294967296:=jG (k:=4) (by simp;omega)
theorem g8_lt(s:Bs)(a:Nat):aS ((s.drop a).take 8)<18446744073709551616:=jG (k:=8) (by simp;omega)
def uB(l:List Arc):List Value:=l.flatMap cR
theorem AU(l:List Arc):(uB l).length=l.length*3:=aK dD _
theorem arcsV_app(l m:List Arc):uB (l++m)=uB l++uB m:=XD
theorem Fd{I:Hp}(ok:OZ I)(ai:s.length<=4815):Ret zB 87 [sv s] I fun r h'=>Gr I h'/\ ∃(n:Int) (J K L:Value) (t:Bool),r=.tuple #[.agg ⟨[.int .i64 n,J,K,L]⟩,.bool t]/\(Fl J/\Fl K/\Fl L)/\(t=true↔jM s/\gG (dh s))/\(t=true->n=(dh s).nodes/\cL h' J K L (dh s))/\ ∀c,(aA J c\/aA K c\/aA L c)->I.n<=c:=by
 obtain⟨e0,e4,eX,eY,eA⟩:=graG_rd s;have Y:jM s->pK (dh s):=fun B=>pE B ai;have A:jM s↔8<=s.length/\(dh s).nodes<=16777216/\(dh s).arcs.length<=67108864/\s.length=8+16*(dh s).nodes+12*(dh s).arcs.length:=by have e2:(dh s).arcs.length=rI s:=kJ _ _ _ _;rw [e2];exact⟨fun B=>⟨B.l8,B.n2,B.m2,B.len⟩,fun⟨x,y,z,u⟩=>⟨x,y,z,u⟩⟩
 generalize dh s=d at*
 have U:s.length<=1000000:=by omega
 have S:=Si ok;have Z: ∀{h:Hp},Gr I h-> ¬jM s->Gr I h/\ ∃(n:Int) (J K L:Value) (t:Bool),Value.tuple #[.agg ⟨[.int .i64 0,.slice none 0 0,.slice none 0 0,.slice none 0 0]⟩,.bool false]=.tuple #[.agg ⟨[.int .i64 n,J,K,L]⟩,.bool t]/\(Fl J/\Fl K/\Fl L)/\(t=true↔jM s/\gG d)/\(t=true->n=d.nodes/\cL h J K L d)/\ ∀c,(aA J c\/aA K c\/aA L c)->I.n<=c:=fun g nb=>
  ⟨g,_,_,_,_,_,rfl,⟨bW,bW,bW⟩,by simp only [Xw,false_iff];exact fun h=>nb h.1,(fun h=>by cases h),fun c h=>h.elim (fun h=>h.elim) (fun h=>h.elim (fun h=>h.elim) (fun h=>h.elim))⟩
 refine erA (n:=95) (rs:=[.cell 2 37,.tmp 3]) e87 ?_;simp only [BZ];refine ag ay S ?_;clear S;intro h M S an;by_cases h8:8<=s.length;rotate_left
 . have c8:(s.length:Int)<(8:Int):=(by omega);simp only [BZ,cw,c8,seval];refine au (stA S (i:=0) Tryz.t7.2.1) ?_;clear S;rintro h ⟨S,C⟩;clear C;simp only [LC,ae,lay,Xa,Xb,seval]at S;simp only [BZ,ab];refine(bF (by decide) (by simp only [az,ah,cC,seval];exact bz t37.1 t37.2.1 (S.lds (b:=M) (o:=0) (n:=4) m0 (lbt rfl)))).2 ((dk (by decide)).2 (bV.2 ?_));exact Z S.gr (fun h=>h8 (A.1 h).1)
 have c8: ¬(s.length:Int)<(8:Int):=by omega
 simp only [BZ,cw,c8,gP (l:=s),seval];refine ag (bK (by intro x e;cases e)) S ?_;clear S;intro h W S aL;simp only [ae]at S;simp only [BZ,seval];refine step_ret (kT (s:=s) (a:=0) (many:=4) (F:=(0,0,0,0)) S (i:=0) rfl rfl (by omega) U (by decide)) ?_;rintro _ h ⟨rfl,F,v,S⟩;simp only [LC,Xc,Xf]at S;simp only [BZ,seval];refine step_ret (kT (s:=s) (a:=0+4) (many:=4) S (i:=0) rfl v (by omega) U (by decide)) ?_;rintro _ h ⟨rfl,F,v,S⟩;simp only [LC,Xc,Xf]at S;rw [show aS ((s.drop 0).take 4)=d.nodes from e0,show aS ((s.drop (0+4)).take 4)=d.arcs.length from e4];have a1:d.nodes<4294967296:=by rw [<-e0];exact g4_lt s 0
 have a2:d.arcs.length<4294967296:=by rw [<-e4];exact g4_lt s 4
 by_cases c1:(16777216:Int)<(d.nodes:Int)
 . simp only [BZ,c1,seval];refine au (stA S (i:=1) Tryz.t7.2.1) ?_;clear S;rintro h ⟨S,C⟩;clear C;simp only [LC,ae,lay,Xa,Xb,seval]at S;simp only [BZ,ab];refine(bF (by decide) (by simp only [az,ah,cC,seval];exact bz t37.1 t37.2.1 (S.lds (b:=M) (o:=0) (n:=4) m1 (lbt rfl)))).2 ((dk (by decide)).2 (bV.2 ?_));exact Z S.gr (fun h=>by have:=(A.1 h).2.1;omega)
 by_cases c2:(67108864:Int)<(d.arcs.length:Int)
 . simp only [BZ,c1,c2,seval];refine au (stA S (i:=1) Tryz.t7.2.1) ?_;clear S;rintro h ⟨S,C⟩;clear C;simp only [LC,ae,lay,Xa,Xb,seval]at S;simp only [BZ,ab];refine(bF (by decide) (by simp only [az,ah,cC,seval];exact bz t37.1 t37.2.1 (S.lds (b:=M) (o:=0) (n:=4) m1 (lbt rfl)))).2 ((dk (by decide)).2 (bV.2 ?_));exact Z S.gr (fun h=>by have:=(A.1 h).2.2.1;omega)
 have w1:am .u64 (16*(d.nodes:Int))=((16*d.nodes:Nat):Int):=by rw [nL]<;>omega
 have w2:am .u64 (8+((16*d.nodes:Nat):Int))=((8+16*d.nodes:Nat):Int):=by rw [nL]<;>omega
 have w3:am .u64 (12*(d.arcs.length:Int))=((12*d.arcs.length:Nat):Int):=by rw [nL]<;>omega
 have w4:am .u64 (((8+16*d.nodes:Nat):Int)+((12*d.arcs.length:Nat):Int))=((8+16*d.nodes+12*d.arcs.length:Nat):Int):=by rw [nL]<;>omega
 have w5:am .u64 (s.length:Int)=((s.length:Nat):Int):=by rw [nL]<;>omega
 by_cases el:s.length=8+16*d.nodes+12*d.arcs.length;rotate_left
 . have V: ¬((s.length:Nat):Int)=((8+16*d.nodes+12*d.arcs.length:Nat):Int):=(by omega);simp only [BZ,aV,ax,a9,c1,c2,cw,w1,w2,w3,w4,w5,V,seval];refine au (stA S (i:=1) Tryz.t7.2.1) ?_;clear S;rintro h ⟨S,C⟩;clear C;simp only [LC,ae,lay,Xa,Xb,seval]at S;simp only [BZ,ab];refine(bF (by decide) (by simp only [az,ah,cC,seval];exact bz t37.1 t37.2.1 (S.lds (b:=M) (o:=0) (n:=4) m1 (lbt rfl)))).2 ((dk (by decide)).2 (bV.2 ?_));exact Z S.gr (fun h=>el (A.1 h).2.2.2)
 have hB:jM s:=A.2 ⟨h8,by omega,by omega,el⟩;have hR:=Y hB;have a3:=hR.n2;have a4:=hR.many;have V:((s.length:Nat):Int)=((8+16*d.nodes+12*d.arcs.length:Nat):Int):=by omega
 have wn:am .i64 (d.nodes:Int)=(d.nodes:Int):=by rw [wrap64]<;>omega
 have wm:am .i64 (d.arcs.length:Int)=(d.arcs.length:Int):=by rw [wrap64]<;>omega
 have w6:am .u64 ((8+16*d.nodes+12*d.arcs.length:Nat):Int)=((8+16*d.nodes+12*d.arcs.length:Nat):Int):=by rw [nL]<;>omega
 simp only [BZ,aV,ax,a9,c1,c2,cw,w1,w2,w3,w4,w6,V,wn,seval];refine ag ay S ?_;clear S;intro h G S a0;simp only [BZ,seval];refine au (stA S (i:=0) Tryz.t7.2.1) ?_;clear S;rintro h ⟨S,C⟩;clear C;simp only [LC,ae,lay,Xa,Xb,seval]at S;simp only [BZ];replace S:=(S.nilG (k:=1)).nilG (k:=1);clear Z;refine aD (fun(k:Nat) E h=>k<=d.nodes/\ ∃(F:Int×Int×Int×Int) (N O:Value),F.1=0/\St NoM I h [(G,.row [.int .i64 d.nodes,N,O,.slice none 0 0] 1),(W,.row (rfC s (8+16*k) F) 1),(M,.row [.int .i64 0,.slice none 0 0,.slice none 0 0,.slice none 0 0] 1)] [(N,1,ints ((zM k).map (xAt s))),(O,1,ints ((zM k).map (yAt s)))]/\
  E 2=ptrTo M/\E 4=ptrTo W/\E 6=.int .u64 d.arcs.length/\E 7=ptrTo G/\E 8=.int .i64 k) (fun k=>d.nodes-k) ?_ 0 _ _ ⟨Xd _,F,_,_,v,S,by simp [ao,ah]⟩
 clear S v F;intro k ih E h ⟨hk,F,N,O,v,S,r2,r4,r6,r7,r8⟩;have w:am .i64 ((k:Int)+1)=((k+1:Nat):Int):=by rw [wrap64]<;>omega
 have fX:Fl N:=(S.gown _ m0).1.fl;have fY:Fl O:=(S.gown _ m1).1.fl;by_cases hlt:k<d.nodes
 . simp only [BZ,r7,r8,aq,hlt,S.ld (b:=G) (o:=0) m0 rfl,seval];refine av (aB rfl) (q:=32) (ps:=[(1,3)]) (by kernel_rfl) ?_;simp only [BZ,cls,r4,r7,S.ld (b:=G) (o:=1) m0 rfl,seval];refine cF (kT (s:=s) (a:=8+16*k) (many:=8) (St.init1 S.ok (S.own (W,.row (rfC s (8+16*k) F) 1) m1).2) (i:=0) rfl v (by omega) U (by decide)) ?_;clear v;rintro _ h ⟨rfl,F,v,T⟩;simp only [Yd]at T;have P:=fu S (i:=0) (j:=1) rfl rfl (by decide) T.fr;replace S:=S.call1 (i:=1) rfl T.fr (T.own _ m0).2;simp only [LC,Xc,Xf]at S;clear T;have wg:am .i64 ((aS ((s.drop (8+16*k)).take 8):Nat):Int)=xAt s k:=wrap_i64 (g8_lt s _);simp only [BZ,aV,ax,a9,cls,wg,seval];refine dR (bD (by exact t23.1) (by exact YK) (by decide) (by rfl)) S ?_;clear S;intro h Q S R aa;simp only [LC,bA,bN,ae,Xo,Xl,Xk,Xq,seval]at S;simp only [BZ,cls,seval];have D:aF h 1 (.slice (some ⟨Q,0,none⟩) 1 1)=some (1,ints [xAt s k]):=(by simp only [aF];rw [S.lds (b:=Q) (o:=0) (n:=1*1) m0 (lbt rfl)];rfl);replace S:=S.drop1;refine jo (S.grow (j:=0) (m:=1) (new:=ints [xAt s k]) rfl t23.1 YK (by decide) t23.2.2.2.2.2 D rfl (by decide) rfl (by rw [bR,bR];simp;omega)) ?_;clear S D;rintro h ac S;simp only [LC,Xc,Xf]at S;rw [<-fk,show(zM k).map (xAt s)++[xAt s k]=(zM (k+1)).map (xAt s) by rw [XL,Xx];rfl]at S;have a5:Fl ac:=(S.gown _ m0).1.fl;simp only [BZ,cls,r7,seval];refine dM (aw S (i:=0) rfl ?_ ?_ ?_ ono) ?_
   . exact(by simp only [FA0])
   . exact(by assumption)
   . exact Xe (lbt rfl)
   clear S;rintro h ⟨S,C⟩;clear C;simp only [LC,ae,lay,Xa,Xb,seval]at S;simp only [BZ,seval];refine⟨by simp only [aR,aZ,aM,bo,aP,ne_eq,not_false_eq_true,bj,bH,aQ,aO,bS,cq,az,Xh,r4,r7,ah,aG P,aJ P,seval],?_⟩;refine av (aB rfl) (q:=32) (ps:=[(1,3)]) (by kernel_rfl) ?_;simp only [BZ,cls,r4,r7,S.ld (b:=G) (o:=2) m0 rfl,seval];refine cF (kT (s:=s) (a:=8+16*k+8) (many:=8) (St.init1 S.ok (S.own (W,.row (rfC s (8+16*k+8) F) 1) m1).2) (i:=0) rfl v (by omega) U (by decide)) ?_;clear v;rintro _ h ⟨rfl,F,v,T⟩;simp only [Yd]at T;have P:=fu S (i:=0) (j:=1) rfl rfl (by decide) T.fr;replace S:=S.call1 (i:=1) rfl T.fr (T.own _ m0).2;simp only [LC,Xc,Xf]at S;clear T;have wg:am .i64 ((aS ((s.drop (8+16*k+8)).take 8):Nat):Int)=yAt s k:=wrap_i64 (g8_lt s _);simp only [BZ,aV,ax,a9,cls,wg,seval];refine dR (bD (by exact t23.1) (by exact YK) (by decide) (by rfl)) S ?_;clear S;intro h Q S R aa;simp only [LC,bA,bN,ae,Xo,Xl,Xk,Xq,seval]at S;simp only [BZ,cls,seval];have D:aF h 1 (.slice (some ⟨Q,0,none⟩) 1 1)=some (1,ints [yAt s k]):=(by simp only [aF];rw [S.lds (b:=Q) (o:=0) (n:=1*1) m0 (lbt rfl)];rfl);replace S:=S.drop1;refine jo (S.grow (j:=1) (m:=1) (new:=ints [yAt s k]) rfl t23.1 YK (by decide) t23.2.2.2.2.2 D rfl (by decide) rfl (by rw [bR,bR];simp;omega)) ?_;clear S D;rintro h ad S;simp only [LC,Xc,Xf]at S;rw [<-fk,show(zM k).map (yAt s)++[yAt s k]=(zM (k+1)).map (yAt s) by rw [XL,Xx];rfl]at S;have a6:Fl ad:=(S.gown _ m1).1.fl;simp only [BZ,cls,r7,seval];refine dM (aw S (i:=0) rfl ?_ ?_ ?_ ono) ?_
   . exact(by simp only [FA0])
   . exact(by assumption)
   . exact Xe (lbt rfl)
   clear S;rintro h ⟨S,C⟩;clear C;simp only [LC,ae,lay,Xa,Xb,seval]at S;simp only [BZ,r8,seval];refine⟨by simp only [aR,aZ,aM,bo,aP,ne_eq,not_false_eq_true,bj,bH,aQ,aO,bS,cq,az,Xh,r4,r7,ah,aG P,aJ P,seval],?_⟩;rw [show 8+16*k+8+8=8+16*(k+1) by omega]at S;simp only [w];exact ih (k+1) _ _ (by omega) ⟨by omega,F,ac,ad,v,S,by simp [ao,r2,r4,r6,r7]⟩
 obtain rfl:k=d.nodes:=by omega
 rw [<-eX,<-eY]at S;simp only [BZ,r7,r8,aq,hlt,S.ld (b:=G) (o:=0) m0 rfl,seval];clear ih r8 w hlt;replace S:=S.nilG (k:=3);refine aD (fun(k:Nat) E h=>k<=d.arcs.length/\ ∃(F:Int×Int×Int×Int) (X:Value),F.1=0/\St NoM I h [(G,.row [.int .i64 d.nodes,N,O,X] 1),(W,.row (rfC s (8+16*d.nodes+12*k) F) 1),(M,.row [.int .i64 0,.slice none 0 0,.slice none 0 0,.slice none 0 0] 1)] [(X,3,uB ((zM k).map (aAt s d.nodes))),(N,1,ints d.X),(O,1,ints d.Y)]/\
  E 2=ptrTo M/\E 4=ptrTo W/\E 6=.int .u64 d.arcs.length/\E 7=ptrTo G/\E 9=.int .i64 k) (fun k=>d.arcs.length-k) ?_ 0 _ _ ⟨Xd _,F,_,v,S,by simp [ao,r2,r4,r6,r7]⟩
 clear S v F r2 r4 r6 r7;intro k ih E h ⟨hk,F,X,v,S,r2,r4,r6,r7,r9⟩;have w:am .i64 ((k:Int)+1)=((k+1:Nat):Int):=by rw [wrap64]<;>omega
 have fA:Fl X:=(S.gown _ m0).1.fl;by_cases hlt:k<d.arcs.length
 . have wa: ∀a,am .i64 ((g4 s a:Nat):Int)=((g4 s a:Nat):Int):=fun a=>(by have:=g4_lt s a;rw [wrap64]<;>omega);simp only [BZ,aV,ax,a9,r4,r6,r9,wm,aq,hlt,seval];refine step_ret (kT (s:=s) (a:=8+16*d.nodes+12*k) (many:=4) S (i:=1) rfl v (by omega) U (by decide)) ?_;clear S v;rintro _ h ⟨rfl,F,v,S⟩;simp only [LC,Xc,Xf]at S;rw [show aS ((s.drop (8+16*d.nodes+12*k)).take 4)=g4 s (8+16*d.nodes+12*k)from rfl];simp only [BZ,aV,ax,a9,wa,seval];refine ag ay S ?_;clear S;intro h ak S al;simp only [BZ,seval];refine au (stA S (i:=0) t81.2.1) ?_;clear S;rintro h ⟨S,C⟩;clear C;simp only [LC,ae,lay,Xa,Xb,seval]at S;simp only [BZ,r4,seval];refine step_ret (kT (s:=s) (a:=8+16*d.nodes+12*k+4) (many:=4) S (i:=2) rfl v (by omega) U (by decide)) ?_;clear S v;rintro _ h ⟨rfl,F,v,S⟩;simp only [LC,Xc,Xf]at S;rw [show aS ((s.drop (8+16*d.nodes+12*k+4)).take 4)=g4 s (8+16*d.nodes+12*k+4)from rfl];simp only [BZ,aV,ax,a9,wa,seval];refine au (aw S (i:=0) rfl ?_ ?_ ?_ ono) ?_
   . exact(by simp only [FA0])
   . exact(by exact cE)
   . exact Xe (lbt rfl)
   clear S;rintro h ⟨S,C⟩;clear C;simp only [LC,ae,lay,Xa,Xb,seval]at S;simp only [BZ,r4,seval];refine step_ret (kT (s:=s) (a:=8+16*d.nodes+12*k+4+4) (many:=4) S (i:=2) rfl v (by omega) U (by decide)) ?_;clear S v;rintro _ h ⟨rfl,F,v,S⟩;simp only [LC,Xc,Xf]at S;rw [show aS ((s.drop (8+16*d.nodes+12*k+4+4)).take 4)=g4 s (8+16*d.nodes+12*k+8)from rfl];simp only [BZ,aV,ax,a9,wa,seval];refine au (aw S (i:=0) rfl ?_ ?_ ?_ ono) ?_
   . exact(by simp only [FA0])
   . exact(by exact cE)
   . exact Xe (lbt rfl)
   clear S;rintro h ⟨S,C⟩;clear C;simp only [LC,ae,lay,Xa,Xb,seval]at S;simp only [BZ,r7,Xg,Xn,Xj,S.ld (b:=G) (o:=3) m1 rfl,S.lds (b:=ak) (o:=0) (n:=3) m0 (lbt rfl),seval];refine ag (bD (by exact t35.1) (by exact e81E) (by decide) (by rfl)) S ?_;clear S;intro h Q S R;simp only [LC,bA,bN,ae,Xo,Xl,Xk,Xq,seval]at S;have D:aF h 3 (.slice (some ⟨Q,0,none⟩) 1 1)=some (1,uB [aAt s d.nodes k]):=(by simp only [aF];rw [S.lds (b:=Q) (o:=0) (n:=1*3) m0 (lbt rfl)];rfl);replace S:=S.drop1;simp only [BZ,seval];refine dq (S.grow (j:=0) (m:=1) (new:=uB [aAt s d.nodes k]) rfl t35.1 e81E (by decide) t35.2.2.2.2.2 D rfl (by decide) rfl (by rw [AU,AU,List.length_map,List.length_range,Yx,X3];omega)) ?_;clear S D;rintro h af S;simp only [LC,Xc,Xf]at S;rw [<-arcsV_app,show(zM k).map (aAt s d.nodes)++[aAt s d.nodes k]=(zM (k+1)).map (aAt s d.nodes) by rw [XL,Xx];rfl]at S;have a7:Fl af:=(S.gown _ m0).1.fl;simp only [BZ,r7,seval];refine au (aw S (i:=1) rfl ?_ ?_ ?_ ono) ?_
   . exact(by simp only [FA0])
   . exact(by assumption)
   . exact Xe (lbt rfl)
   clear S;rintro h ⟨S,C⟩;clear C;simp only [LC,ae,lay,Xa,Xb,seval]at S;replace S:=S.drop1;rw [show 8+16*d.nodes+12*k+4+4+4=8+16*d.nodes+12*(k+1) by omega]at S;simp only [BZ,r9,w,seval];exact ih (k+1) _ _ (by omega) ⟨by omega,F,af,v,S,by simp [ao,r2,r4,r6,r7]⟩
 obtain rfl:k=d.arcs.length:=by omega
 rw [<-eA]at S;have ga:cL h N O X d:=⟨(S.gown _ m1).1.sl rfl (aE .i64) (by decide),(S.gown _ m2).1.sl rfl (aE .i64) (by decide),(S.gown _ m0).1.sl rfl dD (by decide)⟩;have hl:=S.lds (b:=G) (o:=0) (n:=4) m0 (lbt rfl);simp only [BZ,aV,ax,a9,r6,r9,wm,aq,hlt,seval];refine av (aB rfl) (q:=0) (ps:=[(0,2)]) (by kernel_rfl) ?_;simp only [BZ,cls,r7,Xg,Xn,Xj,S.lds (b:=G) (o:=0) (n:=4) m0 (lbt rfl),seval];have k7:=Xt (bU S.ok hl) (XA _);refine cF (chk06_ok S.ok hR ga) ?_;rintro _ h ⟨g,c,p,i,f,rfl,H⟩;have P:=aI g k7;replace S:=S.call g;replace ga:=ga.gr g;clear g;simp only [BZ,cls,r2,seval];refine dM (stA S (i:=2) t37.2.1 (by simp only [ae,XE,XH,fX.2.1,fY.2.1,fA.2.1,Xh];rfl)) ?_;clear S;rintro h' ⟨S,C⟩;simp only [LC,ae,lay,Xa,Xb,seval]at S;have ga:cL h' N O X d:=⟨(S.gown _ m1).1.sl rfl (aE .i64) (by decide),(S.gown _ m2).1.sl rfl (aE .i64) (by decide),(S.gown _ m0).1.sl rfl dD (by decide)⟩;simp only [BZ,cls,ab,seval];refine⟨by simp only [aR,aZ,aM,bo,aP,ne_eq,not_false_eq_true,bj,bH,aQ,aO,bS,cq,az,Xh,r2,r7,ah,aG P,aJ P,seval],?_⟩;refine(bF (by decide) (by simp only [az,r2,ah,seval];exact bz t37.1 t37.2.1 (S.lds (b:=M) (o:=0) (n:=4) m2 (lbt rfl)))).2 ((dk (by decide)).2 (bV.2 ?_));exact⟨S.gr,_,_,_,_,_,rfl,⟨fX,fY,fA⟩,by rw [decide_eq_true_iff,H];exact⟨fun h=>⟨hB,h⟩,fun h=>h.2⟩,fun _=>⟨rfl,ga⟩,fun c H=>H.elim (fun H=>((S.gblk m1 H).1).elim id (fun h=>h.elim)) (fun H=>H.elim (fun H=>((S.gblk m2 H).1).elim id (fun h=>h.elim)) (fun H=>((S.gblk m0 H).1).elim id (fun h=>h.elim)))⟩
def slc(N b:Nat):Value:=.slice (some ⟨b,0,none⟩) N N
def rL(β:Nat->Nat)(row:Nat->List Int):Nat->List (Nat×Ob)
 |0=>[]|i+1=>(β i,.row ((row i).flatMap (encI .i64)) 1)::rL β row i
theorem lg(β:Nat->Nat)(row:Nat->List Int)(i:Nat):(rL β row i).length=i:=by
 induction i with
 |zero=>rfl|succ i a=>simp [rL,a]
theorem CV{a:Nat->Nat}(h: ∀j,j<i->β j=a j):rL β row i=rL a row i:=by
 induction i with
 |zero=>rfl|succ i b=>rw [rL,rL,h i (XN i),b fun j c=>h j (by omega)]
def eW(N:Nat)(β:Nat->Nat):Nat->List Value
 |0=>[]|i+1=>if i%2=0 then eW N β i++[slc N (β i)]else eW N β i
def oW(N:Nat)(β:Nat->Nat):Nat->List Value
 |0=>[]|i+1=>if i%2=0 then oW N β i else oW N β i++[slc N (β i)]
theorem eW_len(N:Nat)(β:Nat->Nat)(i:Nat):(eW N β i).length<=i:=by
 induction i with
 |zero=>exact XA _|succ i a=>rw [eW];split<;>(try simp)<;>omega
theorem oW_len(N:Nat)(β:Nat->Nat)(i:Nat):(oW N β i).length<=i:=by
 induction i with
 |zero=>exact XA _|succ i a=>rw [oW];split<;>(try simp)<;>omega
theorem BV{a:Nat->Nat}(h: ∀j,j<i->β j=a j):eW N β i=eW N a i:=by
 induction i with
 |zero=>rfl|succ i b=>rw [eW,eW,h i (XN i),b fun j c=>h j (by omega)]
theorem B7{a:Nat->Nat}(h: ∀j,j<i->β j=a j):oW N β i=oW N a i:=by
 induction i with
 |zero=>rfl|succ i b=>rw [oW,oW,h i (XN i),b fun j c=>h j (by omega)]
def cV(s:Bs)(n N i:Nat):List Int:=(zM N).map fun j=>get8 ((s.drop (1+4*n+8*N*i+8*j)).take 8)
theorem Am(N:Nat)(s:Bs):(dN N s).l.length=dY s/\(dN N s).l=(zM (dY s)).map (fun k=>((g4 s (1+4*k):Nat):Int))/\sX N s=(zM (2*dY s)).map (cV s (dY s) N)/\(dN N s).to=evens (sX N s)/\(dN N s).fr=odds (sX N s):=by
 refine⟨kJ _ _ _ _,?_,?_,rfl,rfl⟩
 . show jL markG 4 (dY s) (s.drop 1)=_;rw [lJ];refine XO fun j _=>?_;simp only [markG,g4,YD]
 . unfold sX;rw [lJ];refine XO fun i _=>?_;unfold cV;rw [lJ];refine XO fun j a=>?_;have a:=List.mem_range.1 a;rw [List.drop_take,YD,YD,List.take_take,show min 8 (8*N-8*j)=8 by omega];rw [show 1+4*dY s+(8*N*i+8*j)=1+4*dY s+8*N*i+8*j from(Y0 _ _ _).symm]
theorem eoW_two(N:Nat)(β:Nat->Nat)(k:Nat):eW N β (2*k)=((zM k).map fun j=>slc N (β (2*j)))/\oW N β (2*k)=((zM k).map fun j=>slc N (β (2*j+1))):=by
 induction k with
 |zero=>exact⟨rfl,rfl⟩| succ k a=>rw [show 2*(k+1)=2*k+1+1 by omega,eW,eW,oW,oW,if_neg (by omega),if_pos (by omega),if_neg (by omega),if_pos (by omega),a.1,a.2,XL,Xx,Xx];exact⟨rfl,rfl⟩
theorem mZ(f:Nat->List Int)(n:Nat): ∀a,evens ((YT a (2*n)).map f)=((zM n).map fun j=>f (a+2*j))/\odds ((YT a (2*n)).map f)=((zM n).map fun j=>f (a+2*j+1)):=by
 induction n with
 |zero=>intro a;exact⟨rfl,rfl⟩| succ n b=>
   intro a;obtain⟨c,d⟩:=b (a+1+1);rw [show 2*(n+1)=2*n+1+1 by omega,List.range'_succ,List.range'_succ,Xr,Xr,evens,odds,c,d,List.range_succ_eq_map,Xr,Xr,List.map_map,List.map_map];refine⟨?_,?_⟩
   . congr 1;refine XO fun j _=>?_;simp only [Function.comp];congr 1;omega
   . congr 1;refine XO fun j _=>?_;simp only [Function.comp];congr 1;omega
theorem rL_mem(h:k<i):(β k,Ob.row ((row k).flatMap (encI .i64)) 1)∈rL β row i:=by
 induction i with
 |zero=>omega| succ i a=>
   rw [rL];rcases XF (XK h)with h|rfl
   . exact .tail _ (a h)
   . exact .head _
theorem Bv(l:List Value):l=l.flatMap encV:=by
 induction l with
 |nil=>rfl|cons a l b=>rw [Xc,<-b];rfl
theorem app4{e:Type}{x:List e}{a b c d:e}(h:x.length=i):(x++[a,b,c,d])[i]? =some a:=by rw [XS (by omega),h];simp
theorem set4{e:Type}{x:List e}{p a b c d y:e}(h:x.length=i):(p::(x++[a,b,c,d])).set (i+1) y=p::(x++[y,b,c,d]):=by rw [YE,Yg _ _ (by omega),h,Nat.sub_self];rfl
def pb(N:Nat)(s:Bs):Prop:=(1<=dY s/\dY s<=16/\s.length=1+dY s*(4+16*N))/\TabR N (dN N s).l (aW (dN N s).to) (aW (dN N s).fr)/\
 ∀(i:Nat) (v:Int),(dN N s).l[i]? =some v->io N (dY s) (aW (dN N s).to) i v=0/\io N (dY s) (aW (dN N s).fr) i v=0
theorem vj{O:Hp}(ok:OZ O){e:Gra}(al:jZ e){pn:Value}(hN:cI O nb pn e)(hs:s.length<=1000000):dE zB 84 [pn,sv s] none O fun o rc h'=>rc=none/\Gr O h'/\((pb e.nodes s/\ ∃r m,o=.ret r/\O.n<=m/\TabAt h' m r e.nodes (dN e.nodes s).l (aW (dN e.nodes s).to) (aW (dN e.nodes s).fr))\/(¬pb e.nodes s/\o=.pan trB)):=by
 have S:=Si ok;obtain⟨V,eL,eR,eT,eF⟩:=Am e.nodes s;have bi:=al.n2;have e1:aS (s.take 1)=dY s:=rfl;have bf:dY s<256:=jG (k:=1) (by simp;omega);have Z:pb e.nodes s↔(1<=dY s/\dY s<=16/\s.length=1+dY s*(4+16*e.nodes))/\TabR e.nodes (dN e.nodes s).l (aW (dN e.nodes s).to) (aW (dN e.nodes s).fr)/\
  ∀(i:Nat) (v:Int),(dN e.nodes s).l[i]? =some v->io e.nodes (dY s) (aW (dN e.nodes s).to) i v=0/\io e.nodes (dY s) (aW (dN e.nodes s).fr) i v=0:=YV
 generalize pb e.nodes s=TK at Z⊢;generalize dN e.nodes s=f at*
 generalize dY s=n at*
 refine enA (n:=94) (rs:=[.tmp 4]) e84 ?_;simp only [BZ,gP (l:=s),seval];refine step_ret (rj S) ?_;rintro _ h ⟨A,rfl,S⟩;simp only [BZ,seval];refine step_ret (zj (bad:=false) (s:=s) (a:=0) S (i:=0) rfl rfl (Xd _) hs) ?_;rintro _ h ⟨rfl,f',D,S⟩;have et:aS (aT s 0 false 1).1=n:=by
  unfold aT;by_cases h1:s.length<1
  . rw [if_pos (.inr (by omega)),<-e1,List.length_eq_zero_iff.1 (show s.length=0 by omega)];rfl
  . rw [if_neg (fun h=>h.elim (by decide) (by omega)),Xj];exact e1
 rw [et];simp only [LC,Xc,Xf]at S;have w0:am .i64 (n:Int)=n:=by rw [wrap64]<;>omega
 by_cases c1:(1:Int)<=(n:Int);rotate_left
 . simp only [BZ,aV,ax,a9,w0,c1,seval];refine ce (hZ S.ok) ?_;rintro o rc h ⟨rfl,rfl,g⟩;simp only [BZ];exact cg (cy ⟨rfl,S.gr.trans g,.inr ⟨fun h=>by have:=(Z.1 h).1.1;omega,rfl⟩⟩)
 by_cases c2:(n:Int)<=16;rotate_left
 . simp only [BZ,aV,ax,a9,w0,c1,c2,seval];refine ce (hZ S.ok) ?_;rintro o rc h ⟨rfl,rfl,g⟩;simp only [BZ];exact cg (cy ⟨rfl,S.gr.trans g,.inr ⟨fun h=>by have:=(Z.1 h).1.2.1;omega,rfl⟩⟩)
 have bk:n*(4+16*e.nodes)<=16*4804:=XW (by omega) (by omega);have bm:4*n<=n*(4+16*e.nodes):=by rw [X6 4];exact XX n (by omega)
 have s1:1<=s.length:=by refine Nat.pos_of_ne_zero fun h=>?_;rw [List.length_eq_zero_iff.1 h]at e1;have:n=0:=e1.symm;omega
 rw [c6 (by omega)]at D S;obtain rfl:f'=.pointer none:=D.1;simp only [Xl]at S;have w1:am .i64 (16*(e.nodes:Int))=((16*e.nodes:Nat):Int):=by rw [wrap64]<;>omega
 have w2:am .i64 (4+((16*e.nodes:Nat):Int))=((4+16*e.nodes:Nat):Int):=by rw [wrap64]<;>omega
 have w3:am .i64 ((n:Int)*((4+16*e.nodes:Nat):Int))=((n*(4+16*e.nodes):Nat):Int):=by rw [<-Yo,wrap64]<;>omega
 have w4:am .i64 (1+((n*(4+16*e.nodes):Nat):Int))=((1+n*(4+16*e.nodes):Nat):Int):=by rw [wrap64]<;>omega
 simp only [BZ,aV,ax,a9,w0,c1,c2,cw,seval];refine ar (dm S.ok (hN.gr S.gr)) ?_;intro h g;replace S:=S.call g;by_cases el:s.length=1+n*(4+16*e.nodes);rotate_left
 . have a4: ¬((s.length:Nat):Int)=((1+n*(4+16*e.nodes):Nat):Int):=(by omega);simp only [BZ,w1,w2,w3,w4,a4,seval];refine ce (hZ S.ok) ?_;rintro o rc h ⟨rfl,rfl,g⟩;simp only [BZ];exact cg (cy ⟨rfl,S.gr.trans g,.inr ⟨fun h=>el (Z.1 h).1.2.2,rfl⟩⟩)
 have hb:1<=n/\n<=16/\s.length=1+n*(4+16*e.nodes):=⟨by omega,by omega,el⟩;simp only [BZ,w1,w2,w3,w4,el,seval];refine ar (iU S.ok) ?_;intro h g;replace S:=S.call g;simp only [BZ,seval];refine step_ret (Bf S) ?_;rintro _ h ⟨X,rfl,S⟩;simp only [BZ,seval];refine step_ret (Dq (val:=fun k=>((g4 s (1+4*k):Nat):Int)) (fun k=>[(X,.row [ptrTo A] 1),(A,.row (rdC s (1+4*k) (.pointer none)) 1)]) S (n:=n) (by omega) ?_) ?_
 . clear S;intro k p h W S;refine iz (nH S (j:=2) (s:=s) (a:=1+4*k) (S.ld m1 rfl) rfl (by omega) hs) ?_;rintro _ h' ⟨rfl,S⟩;exact⟨rfl,S⟩
 rintro _ h ⟨N,rfl,S⟩;rw [<-eL]at S;simp only [BZ,seval];refine ag ay S ?_;clear S;intro h H S bh;have a5:am .i64 (2*(n:Int))=((2*n:Nat):Int):=by rw [wrap64]<;>omega
 simp only [BZ,a5,seval];replace S:=(S.nilG (k:=1)).nilG (k:=1);rw [show(1+4*n)=1+4*n+8*e.nodes*0 by omega]at S;refine aD (fun(i:Nat) K h=>i<=2*n/\ ∃(β:Nat->Nat) (F G:Value),St NoM O h (rL β (cV s n e.nodes) i++[(H,.row [F,G] 1),(N,.row (f.l.flatMap (encI .i64)) 1),(X,.row [ptrTo A] 1),(A,.row (rdC s (1+4*n+8*e.nodes*i) (.pointer none)) 1)]) [(F,1,eW e.nodes β i),(G,1,oW e.nodes β i)]/\
  K 0=pn/\K 5=ptrTo A/\K 6=.int .i64 n/\K 7=slc n N/\K 8=ptrTo H/\K 42=.int .i64 (2*n:Nat)/\K 43=.int .i64 i) (fun i=>2*n-i) ?_ 0 _ _ ⟨Xd _,fun _=>0,_,_,S,by simp [ao,cC,ah,slc]⟩
 clear S;intro i ih K h ⟨hi,β,F,G,S,r0,r5,r6,r7,r8,r42,r43⟩;have w:am .i64 ((i:Int)+1)=((i+1:Nat):Int):=by rw [wrap64]<;>omega
 by_cases hlt:i<2*n
 . have tm:(i:Int).tmod 2=((i%2:Nat):Int):=(by rw [Xp (by omega)];omega);have wm:am .i64 ((i%2:Nat):Int)=((i%2:Nat):Int):=(by rw [wrap64]<;>omega);simp only [BZ,r42,r43,aq,hlt,seval];refine av (aB rfl) (q:=2048) (ps:=[(5,10),(5,7)]) (by kernel_rfl) ?_;have hb:4*n+8*e.nodes*(i+1)<=n*(4+16*e.nodes):=(by rw [X5 n,X6 n 4,show n*(16*e.nodes)=8*e.nodes*(2*n) by rw [show 16*e.nodes=8*e.nodes*2 by omega,X6 n,Nat.mul_assoc]];exact Nat.add_le_add_left (XX _ hlt) _);rw [X5,Xk]at hb;rcases Ym i with he|he
   . have tp:((i%2:Nat):Int)=0:=(by omega);have lv:h.load H 0 1=some [F]:=S.ld (XJ _ m0) rfl;simp only [BZ,cls,XB,r0,r8,fS (show(2:Int)≠0 by decide),tm,tp,lv,seval];have Y:H<h.n:=bU S.ok lv;refine da (dm S.ok (hN.gr S.gr)) ?_;intro h g;have U:=aI g Y;have aa:=Xt Y g.n;replace S:=S.call g;clear g lv;simp only [BZ,cls,r5,seval];have u: ∀(x:List (Nat×Ob)) (a b c d:Nat×Ob),x.length=i->(x++[a,b,c,d])[i+3]? =some d:=fun x a b c d hx=>(by rw [XS (by omega),hx];simp);have u:=u _ (H,.row [F,G] 1) (N,.row (f.l.flatMap (encI .i64)) 1) (X,.row [ptrTo A] 1) (A,.row (rdC s (1+4*n+8*e.nodes*i) (.pointer none)) 1) (lg β (cV s n e.nodes) i);refine cF (Ch (M:=(· =A)) (val:=fun j=>get8 ((s.drop (1+4*n+8*e.nodes*i+8*j)).take 8)) (fun k=>[(A,.row (rdC s (1+4*n+8*e.nodes*i+8*k) (.pointer none)) 1)]) (St.init1 S.ok (S.own _ (Yi u)).2) (n:=e.nodes) (by omega) ?_) ?_
     . intro k p h W T;refine iz (xh (bad:=false) (s:=s) (a:=1+4*n+8*e.nodes*i+8*k) T (i:=1) rfl rfl (by omega) hs) ?_;rintro _ h' ⟨rfl,f',D,T⟩;rw [c6 (by omega)]at D T⊢;obtain rfl:f'=.pointer none:=D.1;exact⟨rfl,T⟩
     rintro _ h ⟨L,rfl,T⟩;have I: ∀(x:List (Nat×Ob)) (a b c d:Nat×Ob),x.length=i->(x++[a,b,c,d])[i]? =some a:=fun x a b c d hx=>(by rw [XS (by omega),hx];simp);have I:=I _ (H,.row [F,G] 1) (N,.row (f.l.flatMap (encI .i64)) 1) (X,.row [ptrTo A] 1) (A,.row (rdC s (1+4*n+8*e.nodes*i) (.pointer none)) 1) (lg β (cV s n e.nodes) i);have ac:=S.ne I u (by omega);have P:=iG (T.fr.get H aa ac);have nn:=(T.own _ m0).1.resolve_right (T.ne (i:=0) (j:=1) rfl rfl (by decide));have nk:L∉keys (rL β (cV s n e.nodes) i++[(H,.row [F,G] 1),(N,.row (f.l.flatMap (encI .i64)) 1),(X,.row [ptrTo A] 1),(A,.row (rdC s (1+4*n+8*e.nodes*i+8*e.nodes) (.pointer none)) 1)]) [(F,1,eW e.nodes β i),(G,1,oW e.nodes β i)]:=fun W=>absurd (S.key_lt (b:=L) (by simpa [keys]using W)) (by omega);have n0:=S.gr.n;replace S:=S.call1 (i:=i+3) u T.fr (T.own _ m1).2;rw [Yg _ _ (by rw [lg];omega),lg,show i+3-i=3 by omega]at S;simp only [LC]at S;replace S:=S.push (.inl (Xu n0 nn)) (T.own _ m0).2 nk;clear T;have fT:Fl F:=(S.gown _ m0).1.fl;have fF:Fl G:=(S.gown _ m1).1.fl;simp only [BZ,cls,seval];refine dR (bD (by exact t39.1) (by exact Yr) (by decide) (by rfl)) S ?_;clear S;intro h bs S an aL;simp only [LC,bA,bN,ae,Xo,Xl,Xk,Xq,seval]at S;simp only [BZ,cls,seval];have Q:aF h 1 (.slice (some ⟨bs,0,none⟩) 1 1)=some (1,[slc e.nodes L]):=(by simp only [aF];rw [S.lds (b:=bs) (o:=0) (n:=1*1) m0 (lbt rfl)];rfl);replace S:=S.drop1;have lw:=eW_len e.nodes β i;refine jo (S.grow (j:=0) (m:=1) (new:=[slc e.nodes L]) rfl t39.1 Yr (by decide) t39.2.2.2.2.2 Q rfl (by decide) rfl (by simp;omega)) ?_;clear S Q;rintro h vN S;simp only [LC,Xc,Xf]at S;have ad:Fl vN:=(S.gown _ m0).1.fl;simp only [BZ,cls,XB,r8,seval];refine dM (aw S (i:=i+1) (show(_::(_++_))[i+1]? =_ from app4 (lg β (cV s n e.nodes) i)) t39.2.2.1 ad (Xe (lbt rfl)) ono) ?_;clear S;rintro h ⟨S,_⟩;rw [set4 (lg β (cV s n e.nodes) i)]at S;simp only [LC,Xc,Xf]at S;simp only [BZ,r43,seval];refine⟨by simp only [aR,aZ,aM,bo,aP,ne_eq,not_false_eq_true,bj,bH,aQ,aO,bS,cq,az,Xh,r0,r5,r8,ah,aG U,aJ U,aG P,aJ P,seval],?_⟩;simp only [w];obtain⟨B,J,af⟩: ∃B:Nat->Nat,(∀j,j<i->β j=B j)/\B i=L:=⟨fun j=>if j=i then L else β j,fun j C=>by simp [Y2 C],by simp⟩;refine ih (i+1) _ _ (by omega) ⟨by omega,B,vN,G,?_,by simp [ao,r0,r5,r6,r7,r8,r42]⟩;rw [CV J,BV J,B7 J,<-af]at S;rw [rL,X5,Xk,<-Y0];rw [eW,oW,if_pos he,if_pos he];exact S
   . have tp:((i%2:Nat):Int)=1:=(by omega);have lv:h.load H 1 1=some [G]:=S.ld (XJ _ m0) rfl;simp only [BZ,cls,XB,r0,r8,fS (show(2:Int)≠0 by decide),tm,tp,lv,seval];have Y:H<h.n:=bU S.ok lv;refine da (dm S.ok (hN.gr S.gr)) ?_;intro h g;have U:=aI g Y;have aa:=Xt Y g.n;replace S:=S.call g;clear g lv;simp only [BZ,cls,r5,seval];have u: ∀(x:List (Nat×Ob)) (a b c d:Nat×Ob),x.length=i->(x++[a,b,c,d])[i+3]? =some d:=fun x a b c d hx=>(by rw [XS (by omega),hx];simp);have u:=u _ (H,.row [F,G] 1) (N,.row (f.l.flatMap (encI .i64)) 1) (X,.row [ptrTo A] 1) (A,.row (rdC s (1+4*n+8*e.nodes*i) (.pointer none)) 1) (lg β (cV s n e.nodes) i);refine cF (Ch (M:=(· =A)) (val:=fun j=>get8 ((s.drop (1+4*n+8*e.nodes*i+8*j)).take 8)) (fun k=>[(A,.row (rdC s (1+4*n+8*e.nodes*i+8*k) (.pointer none)) 1)]) (St.init1 S.ok (S.own _ (Yi u)).2) (n:=e.nodes) (by omega) ?_) ?_
     . intro k p h W T;refine iz (xh (bad:=false) (s:=s) (a:=1+4*n+8*e.nodes*i+8*k) T (i:=1) rfl rfl (by omega) hs) ?_;rintro _ h' ⟨rfl,f',D,T⟩;rw [c6 (by omega)]at D T⊢;obtain rfl:f'=.pointer none:=D.1;exact⟨rfl,T⟩
     rintro _ h ⟨L,rfl,T⟩;have I: ∀(x:List (Nat×Ob)) (a b c d:Nat×Ob),x.length=i->(x++[a,b,c,d])[i]? =some a:=fun x a b c d hx=>(by rw [XS (by omega),hx];simp);have I:=I _ (H,.row [F,G] 1) (N,.row (f.l.flatMap (encI .i64)) 1) (X,.row [ptrTo A] 1) (A,.row (rdC s (1+4*n+8*e.nodes*i) (.pointer none)) 1) (lg β (cV s n e.nodes) i);have ac:=S.ne I u (by omega);have P:=iG (T.fr.get H aa ac);have nn:=(T.own _ m0).1.resolve_right (T.ne (i:=0) (j:=1) rfl rfl (by decide));have nk:L∉keys (rL β (cV s n e.nodes) i++[(H,.row [F,G] 1),(N,.row (f.l.flatMap (encI .i64)) 1),(X,.row [ptrTo A] 1),(A,.row (rdC s (1+4*n+8*e.nodes*i+8*e.nodes) (.pointer none)) 1)]) [(F,1,eW e.nodes β i),(G,1,oW e.nodes β i)]:=fun W=>absurd (S.key_lt (b:=L) (by simpa [keys]using W)) (by omega);have n0:=S.gr.n;replace S:=S.call1 (i:=i+3) u T.fr (T.own _ m1).2;rw [Yg _ _ (by rw [lg];omega),lg,show i+3-i=3 by omega]at S;simp only [LC]at S;replace S:=S.push (.inl (Xu n0 nn)) (T.own _ m0).2 nk;clear T;have fT:Fl F:=(S.gown _ m0).1.fl;have fF:Fl G:=(S.gown _ m1).1.fl;simp only [BZ,cls,seval];refine dR (bD (by exact t39.1) (by exact Yr) (by decide) (by rfl)) S ?_;clear S;intro h bs S an aL;simp only [LC,bA,bN,ae,Xo,Xl,Xk,Xq,seval]at S;simp only [BZ,cls,seval];have Q:aF h 1 (.slice (some ⟨bs,0,none⟩) 1 1)=some (1,[slc e.nodes L]):=(by simp only [aF];rw [S.lds (b:=bs) (o:=0) (n:=1*1) m0 (lbt rfl)];rfl);replace S:=S.drop1;have lw:=oW_len e.nodes β i;refine jo (S.grow (j:=1) (m:=1) (new:=[slc e.nodes L]) rfl t39.1 Yr (by decide) t39.2.2.2.2.2 Q rfl (by decide) rfl (by simp;omega)) ?_;clear S Q;rintro h vN S;simp only [LC,Xc,Xf]at S;have ad:Fl vN:=(S.gown _ m1).1.fl;simp only [BZ,cls,XB,r8,seval];refine dM (aw S (i:=i+1) (show(_::(_++_))[i+1]? =_ from app4 (lg β (cV s n e.nodes) i)) t39.2.2.1 ad (Xe (lbt rfl)) ono) ?_;clear S;rintro h ⟨S,_⟩;rw [set4 (lg β (cV s n e.nodes) i)]at S;simp only [LC,Xc,Xf]at S;simp only [BZ,r43,seval];refine⟨by simp only [aR,aZ,aM,bo,aP,ne_eq,not_false_eq_true,bj,bH,aQ,aO,bS,cq,az,Xh,r0,r5,r8,ah,aG U,aJ U,aG P,aJ P,seval],?_⟩;simp only [w];obtain⟨B,J,af⟩: ∃B:Nat->Nat,(∀j,j<i->β j=B j)/\B i=L:=⟨fun j=>if j=i then L else β j,fun j C=>by simp [Y2 C],by simp⟩;refine ih (i+1) _ _ (by omega) ⟨by omega,B,F,vN,?_,by simp [ao,r0,r5,r6,r7,r8,r42]⟩;rw [CV J,BV J,B7 J,<-af]at S;rw [rL,X5,Xk,<-Y0];rw [eW,oW,if_neg (by omega),if_neg (by omega)];exact S
 . have a6:i=2*n:=(by omega);subst a6;rw [(eoW_two _ _ n).1,(eoW_two _ _ n).2]at S;have a0:sX e.nodes s=(YT 0 (2*n)).map (cV s n e.nodes):=(by rw [eR,Yk]);have rT: ∀j,j<n->aW f.to j=cV s n e.nodes (2*j):=fun j C=>(by rw [eT,a0,(mZ _ n 0).1];simp [aW,zO,C]);have rF: ∀j,j<n->aW f.fr j=cV s n e.nodes (2*j+1):=fun j C=>(by rw [eF,a0,(mZ _ n 0).2];simp [aW,zO,C]);have rS: ∀k,k<2*n->aH h 1 (encI .i64) (slc e.nodes (β k)) (cV s n e.nodes k):=fun k W=>(by have R:=S.row (YA _ (rL_mem (β:=β) (row:=cV s n e.nodes) W));have lr:(cV s n e.nodes k).length=e.nodes:=(by simp [cV]);refine .inr ⟨β k,0,none,e.nodes,by rw [lr];rfl,by rw [lr];exact XA _,?_⟩;rw [R.load (by rw [aK (aE .i64)];omega),Xj,Xm (by rw [aK (aE .i64)];omega)]);have ll: ∀(v:Value) (R:Nat->List Int) (q:Nat),q<=1->kB h (v,1,(zM n).map fun j=>slc e.nodes (β (2*j+q)))->(∀j,j<n->R j=cV s n e.nodes (2*j+q))->cS h 0 v n R:=fun v R q hq g hR=>⟨(zM n).map fun j=>slc e.nodes (β (2*j+q)),g.sl (Bv _) (fun _=>rfl) (by decide),by simp,fun _ _=>Xd _,fun j w hw=>by
    by_cases C:j<n
    . rw [Yt,YC C]at hw;cases hw;rw [hR j C];exact⟨rS _ (by omega),fun _ _=>Xd _⟩
    . rw [Yh (by simp;omega)]at hw;cases hw⟩
   have a7:=ll F (aW f.to) 0 (by decide) (S.gown _ m0).1 rT;have a8:=ll G (aW f.fr) 1 (by decide) (S.gown _ m1).1 rF;have ai:h.load H 0 1=some [F]:=S.ld (XJ _ m0) rfl;have ba:h.load H 1 1=some [G]:=S.ld (XJ _ m0) rfl;have sM:aH h 1 (encI .i64) (slc n N) f.l:=.inr ⟨N,0,none,_,by rw [V];rfl,by rw [V];exact XA _,by
    have:=S.lds (b:=N) (o:=0) (n:=f.l.length*1) (XJ _ m1) (by rw [aK (aE .i64)];omega);rw [Xj,Xm (by rw [aK (aE .i64)];omega)]at this;exact this⟩
   simp only [BZ,r42,r43,aq,hlt,seval];refine av (aB rfl) (q:=0) (ps:=[(1,6),(1,4)]) (by kernel_rfl) ?_;simp only [BZ,cls,r0,seval];refine da (dm S.ok (hN.gr S.gr)) ?_;intro h g;have U:=aI g (bU (by exact ‹St NoM O _ _ _›.ok) ai);simp only [BZ,cls,XB,r7,r8,g.load ai,g.load ba,seval];replace S:=S.call g;have Y:=bU S.ok (g.load ai);have kn:=S.fr.n;have lT: ∀j,j<f.l.length->(aW f.to j).length<=10000:=fun j C=>(by rw [rT j (by omega)];simp [cV];omega);have lF: ∀j,j<f.l.length->(aW f.fr j).length<=10000:=fun j C=>(by rw [rF j (by omega)];simp [cV];omega);refine cF (B3 S.ok (sM.gr g) (by rw [V];exact a7.gr g) (by rw [V];exact a8.gr g) al.n1 (by omega) lT lF) ?_;rintro pt h ⟨g2,⟨tr,hA⟩|⟨tr,rfl⟩⟩;rotate_left
   . have P:=aI g2 Y;replace S:=S.call g2;have bb:=fun(t:TypeId) (p q:Operand)=>iw (E:=zB) (x:=p) (y:=q) t61.2.2.2.2.1 (.inl ⟨rfl,rfl⟩);simp only [BZ,cls,seval];refine⟨by simp only [aR,aZ,aM,bo,aP,ne_eq,not_false_eq_true,bj,bH,aQ,aO,bS,cq,az,Xh,r0,r5,r8,ah,aG U,aJ U,aG P,aJ P,seval],?_⟩;refine ce (hZ S.ok) ?_;rintro o rc h ⟨rfl,rfl,g⟩;simp only [BZ];exact cg (cy ⟨rfl,S.gr.trans g,.inr ⟨fun h=>tr (Z.1 h).2.1,rfl⟩⟩)
   have rk: ∀j,j<n->fP e.nodes (aW f.to j)/\fP e.nodes (aW f.fr j):=fun j C=>⟨tr.2.1 j (by omega),tr.2.2 j (by omega)⟩;have P:=aI g2 Y;have a1:=(sM.gr g).gr g2;replace S:=S.call g2;have bc:=hA;obtain⟨bt,_,_,_,rfl,_⟩:=bc.ex;have bb:=fun(t:TypeId) (p q:Operand)=>iw (E:=zB) (x:=p) (y:=q) t61.2.2.2.2.1 (.inr ⟨⟨bt,rfl⟩,rfl⟩);simp only [BZ,cls,seval];refine⟨by simp only [aR,aZ,aM,bo,aP,ne_eq,not_false_eq_true,bj,bH,aQ,aO,bS,cq,az,Xh,r0,r5,r8,ah,aG U,aJ U,aG P,aJ P,seval],?_⟩;have g0:=S.gr;have bd:=S.ok;clear S;have S:=Si bd;refine ar (iU S.ok) ?_;intro h g;replace S:=S.call g;simp only [BZ,r7,(a1.gr S.gr).lenq,V,seval];refine aD (fun(k:Nat) K h=>k<=n/\(∀(j:Nat) (v:Int),j<k->f.l[j]? =some v->io e.nodes n (aW f.to) j v=0/\io e.nodes n (aW f.fr) j v=0)/\St NoM _ h [] []/\K 10=ptrTo bt/\K 72=slc n N/\K 73=.int .i64 (n:Nat)/\K 74=.int .i64 k) (fun k=>n-k) ?_ 0 _ _ ⟨Xd _,fun j v C=>absurd C (XU j),S,by simp [ao,ah]⟩;clear S r0 r5 r6 r7 r8 r42 r43;intro k be K h ⟨W,hall,S,r10,r72,r73,r74⟩;have w:am .i64 ((k:Int)+1)=((k+1:Nat):Int):=(by rw [wrap64]<;>omega);by_cases hlt:k<n
   . obtain⟨c,o,a2,a3⟩:=(a1.gr S.gr).ix (kd:=.i64) (aE .i64) (i:=k) (by omega);have ak:f.l[k]? =some f.l[k]:=XQ (by omega);generalize f.l[k]=z at a3 ak;have no: ∀{h':Hp},Gr O h'-> ¬(io e.nodes n (aW f.to) k z=0/\io e.nodes n (aW f.fr) k z=0)->Gr O h'/\((TK/\ ∃r m,Out.pan trB=.ret r/\O.n<=m/\TabAt h' m r e.nodes f.l (aW f.to) (aW f.fr))\/(¬TK/\Out.pan trB=.pan trB)):=fun g V=>⟨g,.inr ⟨fun h=>V ((Z.1 h).2.2 k z ak),rfl⟩⟩;simp only [BZ,r10,r72,r73,r74,aq,hlt,a2,a3,encI,seval];refine ar (tabTo_ok S.ok (hA.gr S.gr) (fun i hi=>(rk i (by omega)).1.1)) ?_;intro h g;replace S:=S.call g;rw [V];by_cases z1:io e.nodes n (aW f.to) k z=0;rotate_left
     . simp only [BZ,z1,seval];refine ce (hZ S.ok) ?_;rintro o rc h ⟨rfl,rfl,g⟩;simp only [BZ];exact cg (cy ⟨rfl,no (g0.trans (S.gr.trans g)) fun h=>z1 h.1⟩)
     rw [z1];simp only [BZ,r10,seval];refine ar (E1 S.ok (hA.gr S.gr) (fun i hi=>(rk i (by omega)).2.1)) ?_;intro h g;replace S:=S.call g;rw [V];by_cases z2:io e.nodes n (aW f.fr) k z=0;rotate_left
     . simp only [BZ,z2,seval];refine ce (hZ S.ok) ?_;rintro o rc h ⟨rfl,rfl,g⟩;simp only [BZ];exact cg (cy ⟨rfl,no (g0.trans (S.gr.trans g)) fun h=>z2 h.2⟩)
     rw [z2];simp only [BZ,seval];refine ar (iU S.ok) ?_;intro h g;replace S:=S.call g;simp only [BZ,r74,w,seval];refine be (k+1) _ _ (by omega) ⟨by omega,fun j v C hv=>?_,S,by simp [ao,r10,r72,r73]⟩;rcases XF (XK C)with C|rfl
     . exact hall j v C hv
     . rw [ak]at hv;cases hv;exact⟨z1,z2⟩
   . simp only [BZ,r10,r73,r74,aq,hlt,seval];refine Dv (by decide) ?_;simp only [az,r10,seval];exact⟨trivial,g0.trans S.gr,.inl ⟨Z.2 ⟨hb,tr,fun i v hv=>hall i v (by have:=(List.getElem?_eq_some_iff.1 hv).1;omega) hv⟩,_,_,rfl,kn,hA.gr S.gr⟩⟩
theorem St.permG{a:Hp}{G':List GL}(S:St M a h L G)(p:G'.Perm G):St M a h L G':=
 ⟨S.fr,S.own,fun x b=>S.gown x (p.mem_iff.1 b),by
  have:(keys L G').Perm (keys L G):=(p.filterMap gy).append_left _;exact this.nodup_iff.2 S.apart⟩
def gV(β:Nat->Value)(row:Nat->List Int):Nat->List GL
 |0=>[]|i+1=>(β i,1,ints (row i))::gV β row i
theorem gV_mem{β:Nat->Value}(h:k<i):(β k,1,ints (row k))∈gV β row i:=by
 induction i with
 |zero=>omega| succ i a=>
   rw [gV];rcases XF (XK h)with h|rfl
   . exact .tail _ (a h)
   . exact .head _
theorem gV_congr{β a:Nat->Value}(h: ∀j,j<i->β j=a j):gV β row i=gV a row i:=by
 induction i with
 |zero=>rfl|succ i b=>rw [gV,gV,h i (XN i),b fun j c=>h j (by omega)]
def eV(β:Nat->Value):Nat->List Value
 |0=>[]|i+1=>if i%2=0 then eV β i++[β i]else eV β i
def oV(β:Nat->Value):Nat->List Value
 |0=>[]|i+1=>if i%2=0 then oV β i else oV β i++[β i]
theorem eV_len(β:Nat->Value)(i:Nat):(eV β i).length<=i:=by
 induction i with
 |zero=>exact XA _|succ i a=>rw [eV];split<;>(try simp)<;>omega
theorem oV_len(β:Nat->Value)(i:Nat):(oV β i).length<=i:=by
 induction i with
 |zero=>exact XA _|succ i a=>rw [oV];split<;>(try simp)<;>omega
theorem eV_congr{β a:Nat->Value}(h: ∀j,j<i->β j=a j):eV β i=eV a i:=by
 induction i with
 |zero=>rfl|succ i b=>rw [eV,eV,h i (XN i),b fun j c=>h j (by omega)]
theorem oV_congr{β a:Nat->Value}(h: ∀j,j<i->β j=a j):oV β i=oV a i:=by
 induction i with
 |zero=>rfl|succ i b=>rw [oV,oV,h i (XN i),b fun j c=>h j (by omega)]
theorem eoV_two(β:Nat->Value)(k:Nat):eV β (2*k)=((zM k).map fun j=>β (2*j))/\oV β (2*k)=((zM k).map fun j=>β (2*j+1)):=by
 induction k with
 |zero=>exact⟨rfl,rfl⟩| succ k a=>rw [show 2*(k+1)=2*k+1+1 by omega,eV,eV,oV,oV,if_neg (by omega),if_pos (by omega),if_neg (by omega),if_pos (by omega),a.1,a.2,XL,Xx,Xx];exact⟨rfl,rfl⟩
def qAt(s:Bs)(n N i j:Nat):Int:=get8 ((s.drop (1+4*n+8*N*i+8*j)).take 8)
def mkAt(s:Bs)(k:Nat):Int:=((g4 s (1+4*k):Nat):Int)
theorem EZ(ok:OZ D)(n1:1<=N)(n3:N<=300)(bO:s.length<=100000):Ret zB 88 [.int .i64 N,sv s] D fun r h'=>Gr D h'/\ ∃(p B C:Value) (t:Bool),r=.tuple #[.agg ⟨[p,B,C]⟩,.bool t]/\(Fl p/\Fl B/\Fl C)/\(t=true↔pb N s)/\(t=true->aH h' 1 (encI .i64) p (dN N s).l/\(∀c,aA p c->D.n<=c)/\cS h' D.n B (dN N s).to.length (aW (dN N s).to)/\cS h' D.n C (dN N s).fr.length (aW (dN N s).fr)):=by
 have S:=Si ok;obtain⟨hn,eL,eR,eT,eF⟩:=Am N s;have e1:aS (s.take 1)=dY s:=rfl;have bw:dY s<256:=jG (k:=1) (by simp;omega);have TO:pb N s↔(1<=dY s/\dY s<=16/\s.length=1+dY s*(4+16*N))/\TabR N (dN N s).l (aW (dN N s).to) (aW (dN N s).fr)/\
  ∀(i:Nat) (v:Int),(dN N s).l[i]? =some v->io N (dY s) (aW (dN N s).to) i v=0/\io N (dY s) (aW (dN N s).fr) i v=0:=YV
 generalize pb N s=TK at TO⊢;generalize dN N s=d at*
 generalize dY s=n at*
 have no: ∀{h:Hp},Gr D h-> ¬TK->Gr D h/\ ∃(p B C:Value) (t:Bool),Value.tuple #[.agg ⟨[.slice none 0 0,.slice none 0 0,.slice none 0 0]⟩,.bool false]=.tuple #[.agg ⟨[p,B,C]⟩,.bool t]/\(Fl p/\Fl B/\Fl C)/\(t=true↔TK)/\(t=true->aH h 1 (encI .i64) p d.l/\(∀c,aA p c->D.n<=c)/\cS h D.n B d.to.length (aW d.to)/\cS h D.n C d.fr.length (aW d.fr)):=fun g nb=>
  ⟨g,_,_,_,_,rfl,⟨bW,bW,bW⟩,by simp only [Xw,false_iff];exact nb,fun h=>by cases h⟩
 refine erA (n:=138) (rs:=[.cell 4 41,.tmp 5]) e88 ?_;simp only [BZ];refine ag ay S ?_;clear S;intro h H S bx;simp only [BZ];refine ag ay S ?_;clear S;intro h z S bB;by_cases s1:s.length=0
 . have c0:(s.length:Int)<1:=(by omega);simp only [BZ,cw,c0,Xg,Xn,Xj,S.lds (b:=z) (o:=0) (n:=3) m0 (lbt rfl),seval];refine au (stA S (i:=1) t26.2.2.1) ?_;clear S;rintro h ⟨S,I⟩;clear I;simp only [LC,ae,lay,Xa,Xb,seval]at S;simp only [BZ,ab];refine(bF (by decide) (by simp only [az,ah,cC,seval];exact bz t41.1 t41.2.1 (S.lds (b:=H) (o:=0) (n:=3) m1 (lbt rfl)))).2 ((dk (by decide)).2 (bV.2 ?_));exact no S.gr (fun h=>by have:=(TO.1 h).1.2.2;omega)
 have c0: ¬(s.length:Int)<1:=by omega
 have W:kZ zB 9 (sv s) (.int .i64 0)=some (.int .u8 (n:Int)):=by have:=jW (l:=s) (E:=zB) (k:=.i64) (i:=0) Tryz.t9.1 (by omega);rw [show s[0].toNat=n by rw [<-e1];cases s with|nil=>exact absurd rfl s1|cons x l=>simp [aS]]at this;exact this
 by_cases c1:(n:Int)=0
 . simp only [BZ,cw,c0,W,c1,Xg,Xn,Xj,S.lds (b:=z) (o:=0) (n:=3) m0 (lbt rfl),seval];refine au (stA S (i:=1) t26.2.2.1) ?_;clear S;rintro h ⟨S,I⟩;clear I;simp only [LC,ae,lay,Xa,Xb,seval]at S;simp only [BZ,ab];refine(bF (by decide) (by simp only [az,ah,cC,seval];exact bz t41.1 t41.2.1 (S.lds (b:=H) (o:=0) (n:=3) m1 (lbt rfl)))).2 ((dk (by decide)).2 (bV.2 ?_));exact no S.gr (fun h=>by have:=(TO.1 h).1.1;omega)
 by_cases c2:(16:Int)<(n:Int)
 . simp only [BZ,cw,c0,W,c1,c2,Xg,Xn,Xj,S.lds (b:=z) (o:=0) (n:=3) m0 (lbt rfl),seval];refine au (stA S (i:=1) t26.2.2.1) ?_;clear S;rintro h ⟨S,I⟩;clear I;simp only [LC,ae,lay,Xa,Xb,seval]at S;simp only [BZ,ab];refine(bF (by decide) (by simp only [az,ah,cC,seval];exact bz t41.1 t41.2.1 (S.lds (b:=H) (o:=0) (n:=3) m1 (lbt rfl)))).2 ((dk (by decide)).2 (bV.2 ?_));exact no S.gr (fun h=>by have:=(TO.1 h).1.2.1;omega)
 have bP:n*(4+16*N)<=16*4804:=XW (by omega) (by omega);have wn:am .i64 (n:Int)=n:=by rw [wrap64]<;>omega
 have w1:am .i64 (16*(N:Int))=((16*N:Nat):Int):=by rw [wrap64]<;>omega
 have w2:am .i64 (4+((16*N:Nat):Int))=((4+16*N:Nat):Int):=by rw [wrap64]<;>omega
 have w3:am .i64 ((n:Int)*((4+16*N:Nat):Int))=((n*(4+16*N):Nat):Int):=by rw [<-Yo,wrap64]<;>omega
 have w4:am .i64 (1+((n*(4+16*N):Nat):Int))=((1+n*(4+16*N):Nat):Int):=by rw [wrap64]<;>omega
 by_cases el:s.length=1+n*(4+16*N);rotate_left
 . have a2: ¬((s.length:Nat):Int)=((1+n*(4+16*N):Nat):Int):=(by omega);simp only [BZ,aV,ax,a9,cw,c0,W,c1,c2,wn,w1,w2,w3,w4,a2,Xg,Xn,Xj,S.lds (b:=z) (o:=0) (n:=3) m0 (lbt rfl),seval];refine au (stA S (i:=1) t26.2.2.1) ?_;clear S;rintro h ⟨S,I⟩;clear I;simp only [LC,ae,lay,Xa,Xb,seval]at S;simp only [BZ,ab];refine(bF (by decide) (by simp only [az,ah,cC,seval];exact bz t41.1 t41.2.1 (S.lds (b:=H) (o:=0) (n:=3) m1 (lbt rfl)))).2 ((dk (by decide)).2 (bV.2 ?_));exact no S.gr (fun h=>el (TO.1 h).1.2.2)
 clear no;have a2:((s.length:Nat):Int)=((1+n*(4+16*N):Nat):Int):=by omega
 have bt: ¬((1+n*(4+16*N):Nat):Int)<1:=by omega
 have hd: ∀a,(s.drop 1).drop a=s.drop (1+a):=fun a=>by rw [YD]
 have l1:(s.drop 1).length=n*(4+16*N):=by rw [YJ];omega
 have sl:=BJ (l:=s) (k:=.i64) (a:=1) Tryz.t9.1 (by omega);replace sl:cZ zB 9 (sv s) (some (.int .i64 1)) none none=some (sv (s.drop 1)):=sl;have bc:(s.drop 1).length<=1000000:=by omega
 simp only [BZ,aV,ax,a9,XC,XG,cw,bt,W,c1,c2,wn,w1,w2,w3,w4,a2,sl,gP,seval];refine ag (bK (by intro x e;cases e)) S ?_;clear S;intro h br S bL;simp only [ae]at S;simp only [BZ,aV,ax,a9,W,wn,seval];replace S:=S.nilG (k:=1);refine aD (fun(k:Nat) A h=>k<=n/\ ∃(F:Int×Int×Int×Int) (p:Value),F.1=0/\St NoM D h [(br,.row (rfC (s.drop 1) (4*k) F) 1),(z,.row [p,.slice none 0 0,.slice none 0 0] 1),(H,.row [.slice none 0 0,.slice none 0 0,.slice none 0 0] 1)] [(p,1,ints ((zM k).map (mkAt s)))]/\
  A 0=.int .i64 N/\A 4=ptrTo H/\A 6=ptrTo z/\A 7=ptrTo br/\A 8=.int .i64 n/\A 9=.int .i64 k) (fun k=>n-k) ?_ 0 _ _ ⟨Xd _,(0,0,0,0),_,rfl,S,by simp [ao,cC,ah]⟩
 clear S;intro k ih A h ⟨hk,F,p,M,S,r0,r4,r6,r7,r8,r9⟩;have w:am .i64 ((k:Int)+1)=((k+1:Nat):Int):=by rw [wrap64]<;>omega
 have fM:Fl p:=(S.gown _ m0).1.fl;have bT:4*n+n*(16*N)=n*(4+16*N):=by rw [X5,X6 n 4]
 by_cases hlt:k<n
 . simp only [BZ,r8,r9,aq,hlt,seval];refine av (aB rfl) (q:=32) (ps:=[(1,3)]) (by kernel_rfl) ?_;simp only [BZ,cls,r6,r7,S.ld (b:=z) (o:=0) m1 rfl,seval];refine cF (kT (s:=s.drop 1) (a:=4*k) (many:=4) (St.init1 S.ok (S.own (br,.row (rfC (s.drop 1) (4*k) F) 1) m0).2) (i:=0) rfl M (by omega) bc (by decide)) ?_;clear M;rintro _ h ⟨rfl,F,M,T⟩;simp only [Yd]at T;have v1:=fu S (i:=1) (j:=0) rfl rfl (by decide) T.fr;replace S:=S.call1 (i:=0) rfl T.fr (T.own _ m0).2;simp only [LC,Xc,Xf]at S;clear T;rw [hd,show aS ((s.drop (1+4*k)).take 4)=g4 s (1+4*k)from rfl];have wg:am .i64 ((g4 s (1+4*k):Nat):Int)=mkAt s k:=(by have:=g4_lt s (1+4*k);rw [wrap64]<;>first|rfl|omega);simp only [BZ,aV,ax,a9,cls,wg,seval];refine dR (bD (by exact t38.1) (by exact XP) (by decide) (by rfl)) S ?_;clear S;intro h X S Y bM;simp only [LC,bA,bN,ae,Xo,Xl,Xk,Xq,seval]at S;simp only [BZ,cls,seval];have G:aF h 1 (.slice (some ⟨X,0,none⟩) 1 1)=some (1,ints [mkAt s k]):=(by simp only [aF];rw [S.lds (b:=X) (o:=0) (n:=1*1) m0 (lbt rfl)];rfl);replace S:=S.drop1;refine jo (S.grow (j:=0) (m:=1) (new:=ints [mkAt s k]) rfl t38.1 XP (by decide) t38.2.2.2.2.2 G rfl (by decide) rfl (by rw [bR,bR];simp;omega)) ?_;clear S G;rintro h bd S;simp only [LC,Xc,Xf]at S;rw [<-fk,show(zM k).map (mkAt s)++[mkAt s k]=(zM (k+1)).map (mkAt s) by rw [XL,Xx];rfl]at S;have bX:Fl bd:=(S.gown _ m0).1.fl;simp only [BZ,cls,r6,seval];refine dM (aw S (i:=1) rfl ?_ ?_ ?_ ono) ?_
   . exact(by simp only [FA0])
   . exact(by assumption)
   . exact Xe (lbt rfl)
   clear S;rintro h ⟨S,I⟩;clear I;simp only [LC,ae,lay,Xa,Xb,seval]at S;simp only [BZ,r9,seval];refine⟨by simp only [aR,aZ,aM,bo,aP,ne_eq,not_false_eq_true,bj,bH,aQ,aO,bS,cq,az,Xh,r6,r7,ah,aG v1,aJ v1,seval],?_⟩;rw [show 4*k+4=4*(k+1) by omega]at S;simp only [w];exact ih (k+1) _ _ (by omega) ⟨by omega,F,bd,M,S,by simp [ao,r0,r4,r6,r7,r8]⟩
 obtain rfl:n=k:=by omega
 rw [show(zM n).map (mkAt s)=d.l from eL.symm]at S;have be:am .i64 (2*(n:Int))=((2*n:Nat):Int):=by rw [wrap64]<;>omega
 simp only [BZ,r8,r9,aq,hlt,seval];clear ih r9 w hlt;replace S:=(S.nilG (k:=1)).nilG (k:=1);replace S:=S.permG (G':=[(p,1,ints d.l),(.slice none 0 0,1,[]),(.slice none 0 0,1,[])]) (YL (l₁:=[_,_]) (l₂:=[])).symm;rw [show 4*n=4*n+8*N*0 by omega]at S;refine aD (fun(i:Nat) A h=>i<=2*n/\ ∃(u:Nat->Value) (F:Int×Int×Int×Int) (B C:Value),F.1=0/\St NoM D h [(br,.row (rfC (s.drop 1) (4*n+8*N*i) F) 1),(z,.row [p,B,C] 1),(H,.row [.slice none 0 0,.slice none 0 0,.slice none 0 0] 1)] ((p,1,ints d.l)::(B,1,eV u i)::(C,1,oV u i)::gV u (cV s n N) i)/\
  A 0=.int .i64 N/\A 4=ptrTo H/\A 6=ptrTo z/\A 7=ptrTo br/\A 8=.int .i64 n/\A 10=.int .i64 i) (fun i=>2*n-i) ?_ 0 _ _ ⟨Xd _,fun _=>.nilIface,F,_,_,M,S,by simp [ao,r0,r4,r6,r7,r8]⟩
 clear S M F r0 r4 r6 r7 r8;intro i ih A h ⟨hi,u,F,B,C,M,S,r0,r4,r6,r7,r8,r10⟩;have w:am .i64 ((i:Int)+1)=((i+1:Nat):Int):=by rw [wrap64]<;>omega
 have fT:Fl B:=(S.gown _ m1).1.fl;have fF:Fl C:=(S.gown _ m2).1.fl;by_cases hlt:i<2*n
 . have hb:4*n+8*N*(i+1)<=n*(4+16*N):=(by rw [X5 n,X6 n 4,show n*(16*N)=8*N*(2*n) by rw [show 16*N=8*N*2 by omega,X6 n,Nat.mul_assoc]];exact Nat.add_le_add_left (XX _ hlt) _);rw [X5,Xk]at hb;simp only [BZ,r8,r10,be,aq,hlt,seval];replace S:=S.nilG (k:=1);refine aD (fun(j:Nat) A h=>j<=N/\ ∃(F:Int×Int×Int×Int) (vR:Value),F.1=0/\St NoM D h [(br,.row (rfC (s.drop 1) (4*n+8*N*i+8*j) F) 1),(z,.row [p,B,C] 1),(H,.row [.slice none 0 0,.slice none 0 0,.slice none 0 0] 1)] ((vR,1,ints ((zM j).map (qAt s n N i)))::(p,1,ints d.l)::(B,1,eV u i)::(C,1,oV u i)::gV u (cV s n N) i)/\
    A 0=.int .i64 N/\A 4=ptrTo H/\A 6=ptrTo z/\A 7=ptrTo br/\A 8=.int .i64 n/\A 10=.int .i64 i/\A 11=vR/\A 12=.int .i64 j) (fun j=>N-j) ?_ 0 _ _ ⟨Xd _,F,_,M,S,by simp [ao,r0,r4,r6,r7,r8,r10]⟩
   clear S M F r0 r4 r6 r7 r8 r10;intro j bu A h ⟨Q,F,vR,M,S,r0,r4,r6,r7,r8,r10,r11,r12⟩;have wj:am .i64 ((j:Int)+1)=((j+1:Nat):Int):=(by rw [wrap64]<;>omega);by_cases a3:j<N
   . have h8:8*N*i+8*j+8<=8*N*i+8*N:=(by omega);simp only [BZ,r0,r7,r11,r12,aq,a3,seval];refine step_ret (kT (s:=s.drop 1) (a:=4*n+8*N*i+8*j) (many:=8) S (i:=0) rfl M (by omega) bc (by decide)) ?_;clear S M;rintro _ h ⟨rfl,F,M,S⟩;simp only [LC,Xc,Xf]at S;rw [hd];have wg:am .i64 ((aS ((s.drop (1+(4*n+8*N*i+8*j))).take 8):Nat):Int)=qAt s n N i j:=(by rw [show 1+(4*n+8*N*i+8*j)=1+4*n+8*N*i+8*j by omega];exact wrap_i64 (g8_lt s _));simp only [BZ,aV,ax,a9,wg,seval];refine ag (bD (by exact t23.1) (by exact YK) (by decide) (by rfl)) S ?_;clear S;intro h X S Y;simp only [LC,bA,bN,ae,Xo,Xl,Xk,Xq,seval]at S;have G:aF h 1 (.slice (some ⟨X,0,none⟩) 1 1)=some (1,ints [qAt s n N i j]):=(by simp only [aF];rw [S.lds (b:=X) (o:=0) (n:=1*1) m0 (lbt rfl)];rfl);replace S:=S.drop1;simp only [BZ,seval];refine dq (S.grow (j:=0) (m:=1) (new:=ints [qAt s n N i j]) rfl t23.1 YK (by decide) t23.2.2.2.2.2 G rfl (by decide) rfl (by rw [bR,bR];simp;omega)) ?_;clear S G;rintro h bv S;simp only [LC,Xc,Xf]at S;rw [<-fk,show(zM j).map (qAt s n N i)++[qAt s n N i j]=(zM (j+1)).map (qAt s n N i) by rw [XL,Xx];rfl]at S;rw [show 4*n+8*N*i+8*j+8=4*n+8*N*i+8*(j+1) by omega]at S;simp only [BZ,r12,wj,seval];exact bu (j+1) _ _ (by omega) ⟨by omega,F,bv,M,S,by simp [ao,r0,r4,r6,r7,r8,r10]⟩
   obtain rfl:N=j:=(by omega);rw [show(zM N).map (qAt s n N i)=cV s n N i from rfl]at S;have fR:Fl vR:=(S.gown _ m0).1.fl;have bf: ∃a n c,vR=.slice a n c:=by
    rcases(S.gown _ m0).1 with⟨e,_⟩|⟨c,k,e,_⟩
    . exact⟨_,_,_,e⟩
    . exact⟨_,_,_,e⟩
   obtain⟨aa,an,ac,rfl⟩:=bf;have tm:(i:Int).tmod 2=((i%2:Nat):Int):=(by rw [Xp (by omega)];omega);obtain⟨f,a4,a5⟩: ∃f:Nat->Value,(∀j,j<i->u j=f j)/\f i=.slice aa an ac:=⟨fun j=>if j=i then .slice aa an ac else u j,fun j Q=>by simp [Y2 Q],by simp⟩;rw [gV_congr a4,eV_congr a4,oV_congr a4]at S;rw [show 4*n+8*N*i+8*N=4*n+8*N*(i+1) by rw [X5];omega]at S;have gE:gV f (cV s n N) (i+1)=(.slice aa an ac,1,ints (cV s n N i))::gV f (cV s n N) i:=(by rw [gV,a5]);have l1:=eV_len f i;have l2:=oV_len f i;rcases Ym i with he|he
   . have tp:((i%2:Nat):Int)=0:=(by omega);have eE:eV f (i+1)=eV f i++[.slice aa an ac]:=(by rw [eV,if_pos he,a5]);have oE:oV f (i+1)=oV f i:=(by rw [oV,if_pos he]);simp only [BZ,r0,r6,r10,r11,r12,aq,a3,fS (show(2:Int)≠0 by decide),tm,tp,S.ld (b:=z) (o:=1) m1 rfl,seval];refine ag (bD (by exact t39.1) (by exact Yr) (by decide) (by rfl)) S ?_;clear S;intro h X S Y;simp only [LC,bA,bN,ae,Xo,Xl,Xk,Xq,seval]at S;have G:aF h 1 (.slice (some ⟨X,0,none⟩) 1 1)=some (1,[.slice aa an ac]):=(by simp only [aF];rw [S.lds (b:=X) (o:=0) (n:=1*1) m0 (lbt rfl)];rfl);replace S:=S.drop1;simp only [BZ,seval];refine dq (S.grow (j:=2) (m:=1) (new:=[.slice aa an ac]) rfl t39.1 Yr (by decide) t39.2.2.2.2.2 G rfl (by decide) rfl (by simp;omega)) ?_;clear S G;rintro h a6 S;simp only [LC,Xc,Xf]at S;rw [<-eE,<-oE]at S;have bY:Fl a6:=(S.gown _ m2).1.fl;simp only [BZ,r6,seval];refine au (aw S (i:=1) rfl ?_ ?_ ?_ ono) ?_
     . exact(by simp only [FA0])
     . exact(by assumption)
     . exact Xe (lbt rfl)
     clear S;rintro h ⟨S,I⟩;clear I;simp only [LC,ae,lay,Xa,Xb,seval]at S;replace S:=S.permG (G':=(p,1,ints d.l)::(a6,1,eV f (i+1))::(C,1,oV f (i+1))::gV f (cV s n N) (i+1)) (by rw [gE];exact YL (l₁:=[_,_,_]));simp only [BZ,r10,w,seval];exact ih (i+1) _ _ (by omega) ⟨by omega,f,F,a6,C,M,S,by simp [ao,r0,r4,r6,r7,r8]⟩
   . have tp: ¬((i%2:Nat):Int)=0:=(by omega);have eE:eV f (i+1)=eV f i:=(by rw [eV,if_neg (by omega)]);have oE:oV f (i+1)=oV f i++[.slice aa an ac]:=(by rw [oV,if_neg (by omega),a5]);simp only [BZ,r0,r6,r10,r11,r12,aq,a3,fS (show(2:Int)≠0 by decide),tm,tp,S.ld (b:=z) (o:=2) m1 rfl,seval];refine ag (bD (by exact t39.1) (by exact Yr) (by decide) (by rfl)) S ?_;clear S;intro h X S Y;simp only [LC,bA,bN,ae,Xo,Xl,Xk,Xq,seval]at S;have G:aF h 1 (.slice (some ⟨X,0,none⟩) 1 1)=some (1,[.slice aa an ac]):=(by simp only [aF];rw [S.lds (b:=X) (o:=0) (n:=1*1) m0 (lbt rfl)];rfl);replace S:=S.drop1;simp only [BZ,seval];refine dq (S.grow (j:=3) (m:=1) (new:=[.slice aa an ac]) rfl t39.1 Yr (by decide) t39.2.2.2.2.2 G rfl (by decide) rfl (by simp;omega)) ?_;clear S G;rintro h a7 S;simp only [LC,Xc,Xf]at S;rw [<-eE,<-oE]at S;have b0:Fl a7:=(S.gown _ m3).1.fl;simp only [BZ,r6,seval];refine au (aw S (i:=1) rfl ?_ ?_ ?_ ono) ?_
     . exact(by simp only [FA0])
     . exact(by assumption)
     . exact Xe (lbt rfl)
     clear S;rintro h ⟨S,I⟩;clear I;simp only [LC,ae,lay,Xa,Xb,seval]at S;replace S:=S.permG (G':=(p,1,ints d.l)::(B,1,eV f (i+1))::(a7,1,oV f (i+1))::gV f (cV s n N) (i+1)) (by rw [gE];exact YL (l₁:=[_,_,_]));simp only [BZ,r10,w,seval];exact ih (i+1) _ _ (by omega) ⟨by omega,f,F,B,a7,M,S,by simp [ao,r0,r4,r6,r7,r8]⟩
 obtain rfl:i=2*n:=by omega
 rw [(eoV_two _ n).1,(eoV_two _ n).2]at S;have ai:sX N s=(YT 0 (2*n)).map (cV s n N):=by rw [eR,Yk]
 have lT:d.to.length=n:=by rw [eT,ai,(mZ _ n 0).1];simp
 have lF:d.fr.length=n:=by rw [eF,ai,(mZ _ n 0).2];simp
 have rT: ∀j,j<n->aW d.to j=cV s n N (2*j):=fun j Q=>by rw [eT,ai,(mZ _ n 0).1];simp [aW,zO,Q]
 have rF: ∀j,j<n->aW d.fr j=cV s n N (2*j+1):=fun j Q=>by rw [eF,ai,(mZ _ n 0).2];simp [aW,zO,Q]
 have bk: ∀{h} {L:List (Nat×Ob)},St NoM D h L ((p,1,ints d.l)::(B,1,(zM n).map fun j=>u (2*j))::(C,1,(zM n).map fun j=>u (2*j+1))::gV u (cV s n N) (2*n))-> ∀{v k vs},(v,k,vs)∈((p,1,ints d.l)::(B,1,(zM n).map fun j=>u (2*j))::(C,1,(zM n).map fun j=>u (2*j+1))::gV u (cV s n N) (2*n))-> ∀c,aA v c->D.n<=c:=fun S _ _ _ hm c hc=>((S.gblk hm hc).1).elim id (fun h=>h.elim);have rM: ∀k,k<2*n->(u k,1,ints (cV s n N k))∈((p,1,ints d.l)::(B,1,(zM n).map fun j=>u (2*j))::(C,1,(zM n).map fun j=>u (2*j+1))::gV u (cV s n N) (2*n)):=fun k hk=>.tail _ (.tail _ (.tail _ (gV_mem hk)));have ll: ∀{h} {L:List (Nat×Ob)},St NoM D h L ((p,1,ints d.l)::(B,1,(zM n).map fun j=>u (2*j))::(C,1,(zM n).map fun j=>u (2*j+1))::gV u (cV s n N) (2*n))-> ∀(v:Value) (R:Nat->List Int) (q:Nat),q<=1->(v,1,(zM n).map fun j=>u (2*j+q))∈((p,1,ints d.l)::(B,1,(zM n).map fun j=>u (2*j))::(C,1,(zM n).map fun j=>u (2*j+1))::gV u (cV s n N) (2*n))->(∀j,j<n->R j=cV s n N (2*j+q))->cS h D.n v n R:=fun S v R q hq g hR=>⟨(zM n).map fun j=>u (2*j+q),(S.gown _ g).1.sl (Bv _) (fun _=>rfl) (by decide),by simp,bk S g,fun j w hw=>by
  by_cases Q:j<n
  . rw [Yt,YC Q]at hw;cases hw;rw [hR j Q];exact⟨(S.gown _ (rM _ (by omega))).1.sl rfl (aE .i64) (by decide),bk S (rM _ (by omega))⟩
  . rw [Yh (by simp;omega)]at hw;cases hw⟩
 have sM:aH h 1 (encI .i64) p d.l:=(S.gown _ m0).1.sl rfl (aE .i64) (by decide);have ak:=ll S B (aW d.to) 0 (by decide) m1 rT;have al:=ll S C (aW d.fr) 1 (by decide) m2 rF;have fM:Fl p:=sM.fl;have bh: ∀R:Nat->List Int,(∃q,∀j,j<n->R j=cV s n N (2*j+q))-> ∀j,j<d.l.length->(R j).length=N:=fun R ⟨q,hq⟩ j Q=>by rw [hq j (by omega)];simp [cV]
 have bi:=bh _ ⟨0,rT⟩;have bl:=bh _ ⟨1,rF⟩;simp only [BZ,r0,r6,r8,r10,be,aq,hlt,S.ld (b:=z) (o:=0) m1 rfl,S.ld (b:=z) (o:=1) m1 rfl,S.ld (b:=z) (o:=2) m1 rfl,seval];refine step_ret (make17_ok S.ok sM (by rw [hn];exact ak) (by rw [hn];exact al) n1 (by omega) (by omega) bi bl) ?_;intro v h ⟨g,t,e,ht⟩;replace S:=S.call g;subst e;have aL: ∀{h} {t:Bool},(t=true↔TK)->St NoM D h [(br,.row (rfC (s.drop 1) (4*n+8*N*(2*n)) F) 1),(z,.row [p,B,C] 1),(H,.row [p,B,C] 1)] ((p,1,ints d.l)::(B,1,(zM n).map fun j=>u (2*j))::(C,1,(zM n).map fun j=>u (2*j+1))::gV u (cV s n N) (2*n))->
  Gr D h/\ ∃(a0 a8 ba:Value) (t':Bool),Value.tuple #[.agg ⟨[p,B,C]⟩,.bool t]=.tuple #[.agg ⟨[a0,a8,ba]⟩,.bool t']/\(Fl a0/\Fl a8/\Fl ba)/\(t'=true↔TK)/\(t'=true->aH h 1 (encI .i64) a0 d.l/\(∀c,aA a0 c->D.n<=c)/\cS h D.n a8 d.to.length (aW d.to)/\cS h D.n ba d.fr.length (aW d.fr)):=fun hk S=>
  ⟨S.gr,_,_,_,_,rfl,⟨fM,fT,fF⟩,hk,fun _=>⟨(S.gown _ m0).1.sl rfl (aE .i64) (by decide),bk S m0,by rw [lT];exact ll S B (aW d.to) 0 (by decide) m1 rT,by rw [lF];exact ll S C (aW d.fr) 1 (by decide) m2 rF⟩⟩
 cases t with
 | false=>
   simp only [BZ,r4,r6,Xg,Xn,Xj,S.lds (b:=z) (o:=0) (n:=3) m1 (lbt rfl),seval];refine au (S.store (i:=2) rfl t41.2.1 (by intro x e;cases e) rfl (by simp only [ae,XE,XH,fM.2.1,fT.2.1,fF.2.1,Xh]) (lbt rfl) ono) ?_;clear S;rintro h ⟨S,I⟩;simp only [LC,ae,lay,Xa,Xb,seval]at S;simp only [BZ,ab];refine(bF (by decide) (by simp only [az,r4,ah,cC,seval];exact bz t41.1 t41.2.1 (S.lds (b:=H) (o:=0) (n:=3) m2 (lbt rfl)))).2 ((dk (by decide)).2 (bV.2 ?_));exact aL (by simp only [Xw,false_iff];exact fun h=>by have:=ht.2 (TO.1 h).2.1;cases this) S
 |true=>
 have bm:=ht.1 rfl;clear ht;simp only [BZ,seval];have tk: ∀(i:Nat) (k:Nat),k<N->d.l[i]? =some (k:Int)->i<n-> ∀R:Nat->List Int,io N n R i (k:Int)=(R i).getD k 0:=fun i k hk _ hi R=>by unfold io;rw [if_pos ⟨by omega,by omega,by omega,by omega⟩,Ys,Ys]
 refine aD (fun(i:Nat) A h=>i<=n/\(∀j,j<i-> ∀v:Int,d.l[j]? =some v->io N n (aW d.to) j v=0/\io N n (aW d.fr) j v=0)/\St NoM D h [(br,.row (rfC (s.drop 1) (4*n+8*N*(2*n)) F) 1),(z,.row [p,B,C] 1),(H,.row [.slice none 0 0,.slice none 0 0,.slice none 0 0] 1)] ((p,1,ints d.l)::(B,1,(zM n).map fun j=>u (2*j))::(C,1,(zM n).map fun j=>u (2*j+1))::gV u (cV s n N) (2*n))/\
  A 4=ptrTo H/\A 6=ptrTo z/\A 8=.int .i64 n/\A 13=.int .i64 i) (fun i=>n-i) ?_ 0 _ _ ⟨Xd _,fun j h=>absurd h (XU j),S,by simp [ao,r4,r6,r8]⟩
 clear S ih w r0 r4 r6 r7 r8 r10 sM ak al;intro i ih A h ⟨hi,hall,S,r4,r6,r8,r13⟩;have w:am .i64 ((i:Int)+1)=((i+1:Nat):Int):=by rw [wrap64]<;>omega
 have sM:aH h 1 (encI .i64) p d.l:=(S.gown _ m0).1.sl rfl (aE .i64) (by decide);have ak:=ll S B (aW d.to) 0 (by decide) m1 rT;have al:=ll S C (aW d.fr) 1 (by decide) m2 rF;by_cases hlt:i<n
 . have V:i<d.l.length:=(by omega);obtain⟨k,hk,bn⟩: ∃k:Nat,k<N/\d.l[i]=(k:Int):=(by obtain⟨a,b,_⟩:=(Bd (N:=N) V).1 (bm.1.2 i V);exact⟨d.l[i].toNat,by omega,by omega⟩);obtain⟨q0,o0,O,J⟩:=sM.ix (kd:=.i64) (aE .i64) V;simp only [encI]at J;rw [bn]at J;have e?:d.l[i]? =some (k:Int):=(by rw [XQ V,bn]);obtain⟨x,⟨c,o,Z,bb⟩,hx,_⟩:=ak.row hlt;obtain⟨y,⟨c2,o2,ad,a1⟩,hy,_⟩:=al.row hlt;have lx:=bi i V;have ly:=bl i V;obtain⟨q3,o3,P,K⟩:=hx.ix (kd:=.i64) (aE .i64) (i:=k) (by omega);obtain⟨q4,o4,af,U⟩:=hy.ix (kd:=.i64) (aE .i64) (i:=k) (by omega);have tT:io N n (aW d.to) i (k:Int)=(aW d.to i)[k]:=(by rw [tk i k hk e? hlt];simp [zO,show k<(aW d.to i).length by omega]);have tF:io N n (aW d.fr) i (k:Int)=(aW d.fr i)[k]:=(by rw [tk i k hk e? hlt];simp [zO,show k<(aW d.fr i).length by omega]);simp only [encI]at K U;generalize(aW d.to i)[k]=zt at K tT;generalize(aW d.fr i)[k]=zf at U tF;have fx:=hx.fl;have fy:=hy.fl;have bp: ¬(zt=0/\zf=0)-> ¬TK:=fun hb h=>hb (by have:=(TO.1 h).2.2 i k e?;rw [tT,tF]at this;exact this);simp only [BZ,r8,r13,aq,hlt,seval];by_cases z1:zt=0
   . by_cases z2:zf=0
     . refine av (aB rfl) (q:=0) (ps:=[]) (by kernel_rfl) ?_;simp only [BZ,cls,r6,r13,O,J,Z,bb,ad,a1,P,K,af,U,z1,z2,w,S.ld (b:=z) (o:=0) m1 rfl,S.ld (b:=z) (o:=1) m1 rfl,S.ld (b:=z) (o:=2) m1 rfl,seval];refine ih (i+1) _ _ (by omega) ⟨by omega,fun j Q v hv=>?_,S,by simp [ao,r4,r6,r8]⟩;rcases XF (XK Q)with Q|rfl
       . exact hall j Q v hv
       . rw [e?]at hv;cases hv;exact⟨tT.trans z1,tF.trans z2⟩
     . refine av (aB rfl) (q:=0) (ps:=[]) (by kernel_rfl) ?_;simp only [BZ,cls,r4,r6,r13,O,J,Z,bb,ad,a1,P,K,af,U,z1,z2,Xg,Xn,Xj,S.ld (b:=z) (o:=0) m1 rfl,S.ld (b:=z) (o:=1) m1 rfl,S.ld (b:=z) (o:=2) m1 rfl,S.lds (b:=z) (o:=0) (n:=3) m1 (lbt rfl),seval];refine au (S.store (i:=2) rfl t41.2.1 (by intro x e;cases e) rfl (by simp only [ae,XE,XH,fM.2.1,fT.2.1,fF.2.1,Xh]) (lbt rfl) ono) ?_;clear S;rintro h ⟨S,I⟩;simp only [LC,ae,lay,Xa,Xb,seval]at S;simp only [BZ,ab];refine(bF (by decide) (by simp only [az,r4,ah,cC,seval];exact bz t41.1 t41.2.1 (S.lds (b:=H) (o:=0) (n:=3) m2 (lbt rfl)))).2 ((dk (by decide)).2 (bV.2 ?_));exact aL (by simp only [Xw,false_iff];exact bp fun h=>z2 h.2) S
   . refine av (aB rfl) (q:=0) (ps:=[]) (by kernel_rfl) ?_;simp only [BZ,cls,r4,r6,r13,O,J,Z,bb,P,K,z1,Xg,Xn,Xj,S.ld (b:=z) (o:=0) m1 rfl,S.ld (b:=z) (o:=1) m1 rfl,S.ld (b:=z) (o:=2) m1 rfl,S.lds (b:=z) (o:=0) (n:=3) m1 (lbt rfl),seval];refine au (S.store (i:=2) rfl t41.2.1 (by intro x e;cases e) rfl (by simp only [ae,XE,XH,fM.2.1,fT.2.1,fF.2.1,Xh]) (lbt rfl) ono) ?_;clear S;rintro h ⟨S,I⟩;simp only [LC,ae,lay,Xa,Xb,seval]at S;simp only [BZ,ab];refine(bF (by decide) (by simp only [az,r4,ah,cC,seval];exact bz t41.1 t41.2.1 (S.lds (b:=H) (o:=0) (n:=3) m2 (lbt rfl)))).2 ((dk (by decide)).2 (bV.2 ?_));exact aL (by simp only [Xw,false_iff];exact bp fun h=>z1 h.1) S
 . simp only [BZ,r4,r6,r8,r13,aq,hlt,Xg,Xn,Xj,S.lds (b:=z) (o:=0) (n:=3) m1 (lbt rfl),seval];refine au (S.store (i:=2) rfl t41.2.1 (by intro x e;cases e) rfl (by simp only [ae,XE,XH,fM.2.1,fT.2.1,fF.2.1,Xh]) (lbt rfl) ono) ?_;clear S;rintro h ⟨S,I⟩;simp only [LC,ae,lay,Xa,Xb,seval]at S;simp only [BZ,ab];refine(bF (by decide) (by simp only [az,r4,ah,cC,seval];exact bz t41.1 t41.2.1 (S.lds (b:=H) (o:=0) (n:=3) m2 (lbt rfl)))).2 ((dk (by decide)).2 (bV.2 ?_));exact aL (by simp only [true_iff];exact TO.2 ⟨⟨by omega,by omega,el⟩,bm,fun i v hv=>hall i (by have:=(List.getElem?_eq_some_iff.1 hv).1;omega) v hv⟩) S
theorem LLD.at{h:Hp}{m k n:Nat}{v:Value}{R:Nat->List Int}(r:LLD h m k v n R){i:Nat}(J:i<n)(y:R i≠ []):
 ∃ c,(∃q o,iC (some 1) v (.int .i64 (i:Nat))=some (.pointer (some ⟨q,o,none⟩))/\h.load q o 1=some [.slice (some ⟨c,0,some 1⟩) (R i).length (R i).length])/\Row h c (ints (R i)) 1/\m<=c/\c<k/\
   ∀h' l',Mo (· =c) h h'->l'.length=(R i).length->Row h' c (ints l') 1->LLD h' m k v n (fun t=>if t=i then l' else R t):=by
 obtain⟨p,a,b,c,d,e⟩:=r;obtain⟨q,o,H,z⟩:=a.ix (kd:=.i64) sF (i:=i) (by omega);have A:p[i]? =some p[i]:=XQ (by omega);obtain⟨⟨K,I⟩,B⟩:=d i _ A;obtain⟨l,C,D⟩:=I y;have f:aA p[i] l:=by rw [C];rfl
 refine⟨l,⟨q,o,H,by rw [<-C];exact z⟩,D,(B l f).1,(B l f).2.1,fun h' l' G s g=>⟨p,a.mo G (fun x E e=>by subst e;exact(B _ f).2.2 E),b,c,fun j w u=>?_,e⟩⟩;refine⟨?_,(d j w u).2⟩;show WrI h' w (if j=i then l' else R j);by_cases F:j=i
 . subst F;rw [if_pos rfl];rw [A]at u;cases u;rw [C];refine⟨.inr ⟨l,0,some 1,(R j).length,by rw [s],by omega,?_⟩,fun _=>⟨l,by rw [s],g⟩⟩;rw [g.load (by rw [bR];omega),Xj,Xk,<-bR l',YI];rfl
 . rw [if_neg F];exact(d j w u).1.mo G (fun x E z=>by subst z;exact e j i w p[i] _ u A F E f)
theorem CJ{B:List Arc}{s:Nat}(h: ∀v,dOf B s v<=FAR){x:Int}(a:x∈qd B N s):0<=x/\x<=72057594037927936:=by unfold qd at a;obtain⟨v,_,rfl⟩:=List.mem_map.1 a;have:=h v;unfold FAR at this;omega
theorem exTo{b:Hp}(d:OZ b){a:Gra}(c:Good a){f:Nat}(g:cI b f e a){s:Nat}(hs:s<a.nodes)(v:Nat):IsD (seen a.arcs Arc.t Arc.s) s v (dOf (seen a.arcs Arc.t Arc.s) s v):=by obtain⟨_,_,_,_,_,_,_,D,_,_,_,_,_,_,_,h,_⟩:=u5 d c g hs;exact(vW (h v)).2
theorem exFrom{b:Hp}(d:OZ b){a:Gra}(c:Good a){f:Nat}(g:cI b f e a){s:Nat}(hs:s<a.nodes)(v:Nat):IsD (seen a.arcs Arc.s Arc.t) s v (dOf (seen a.arcs Arc.s Arc.t) s v):=by obtain⟨_,_,_,_,_,_,_,D,_,_,_,_,_,_,_,h,_⟩:=wF d c g hs;exact(vW (h v)).2
theorem Dd(B:List Arc)(N s:Nat):(qd B N s).length=N:=by simp [qd]
theorem rowD_at{B:List Arc}{s v:Nat}(a:v<N):(qd B N s).getD v 0=(dOf B s v:Nat):=by simp [qd,zO,a]
theorem bSetG_ok{j:Hp}(t:OZ j){o:Nat}(m:jm j k o rows a b B)(p:k≠o){r:Nat}(c:rows<=100)(d:a<=1000)(e:b=(a+7)/8)(x:Bool):Ret zB 21 [ptrTo k,.int .i64 (r:Nat),.int .i64 (i:Nat),.bool x] j fun v h'=>Mo (· =o) j h'/\ ∃u,jm h' k o rows a b u/\(Tz a b B->Tz a b u):=by
 by_cases l:r<rows/\i<a
 . exact bSetZ_ok t m p l.1 l.2 c d e x
 have A: ∀{h:Hp} {f:Value},Gr j h->Fl f->cj zB 69 [ptrTo k,.int .i64 (r:Nat),.int .i64 (i:Nat),f] h (.bool false):=by
  intro h f g E;have S:=Si g.ok;have q:=m.gr g;have w: ¬(r:Int)<0:=by omega
  have C: ¬(i:Int)<0:=by omega
  by_cases F:r<rows
  . have s: ¬(rows:Int)<=(r:Int):=(by omega);have D:(a:Int)<=(i:Int):=(by omega);refine erA (n:=46) (rs:=[.tmp 8]) e69 ?_;simp only [BZ,w,seval];refine ar (nQ S.ok q.bits) ?_;intro h g;replace S:=S.call g;simp only [BZ,s,C,seval];refine ar (qC S.ok (q.gr S.gr).bits) ?_;intro h g;replace S:=S.call g;simp only [BZ,ab,D,seval];exact S.gr
  . have s:(rows:Int)<=(r:Int):=(by omega);refine erA (n:=46) (rs:=[.tmp 8]) e69 ?_;simp only [BZ,w,seval];refine ar (nQ S.ok q.bits) ?_;intro h g;replace S:=S.call g;simp only [BZ,ab,s,seval];exact S.gr
 have S:=Si t;refine erA (n:=14) (rs:=[.tmp 8]) e21 ?_;simp only [BZ,seval];refine ag (dU (by exact qi)) S ?_;clear S;intro h G S y;simp only [BZ,seval];refine ar (A S.gr jg) ?_;intro h g;replace S:=S.call g;simp only [BZ,seval];exact⟨S.gr.fr,B,m.gr S.gr,fun z=>z⟩
theorem cS.congr{f:Nat->List Int}(r:cS h m v n R)(e: ∀i,i<n->R i=f i):cS h m v n f:=by
 obtain⟨j,a,b,c,d⟩:=r;exact⟨j,a,b,c,fun i w g=>by
  have:=(List.getElem?_eq_some_iff.1 g).1;rw [<-e i (by omega)];exact d i w g⟩
theorem TabAt.congr{h:Hp}{m N:Nat}{p:Value}{l:List Int}{R Q a c:Nat->List Int}(t:TabAt h m p N l R Q)(d: ∀i,i<l.length->R i=a i)(e: ∀i,i<l.length->Q i=c i):TabAt h m p N l a c:=by obtain⟨b,f,g,j,k,n,o,q,r,s,u⟩:=t.ex;exact⟨b,f,g,j,k,n,o,q.congr d,r.congr e,s,u⟩
def tabL(l:List Int)(R Q:Nat->List Int):Tab:=⟨l,(zM l.length).map R,(zM l.length).map Q⟩
theorem lK(h:i<n):aW ((zM n).map R) i=R i:=by unfold aW;simp [zO,h]
theorem tabL_at{l:List Int}(t:TabAt h m p N l R Q):TabAt h m p N (tabL l R Q).l (aW (tabL l R Q).to) (aW (tabL l R Q).fr):=
 t.congr (fun i a=>(lK a).symm) (fun i a=>(lK a).symm)
theorem tabL_L{l:List Int}(d:gU N l)(k:N<=1000)(c:1<=l.length)(e: ∀i,i<l.length->fP N (R i))(f: ∀i,i<l.length->fP N (Q i)):TabL N (tabL l R Q):=by
 have a: ∀{F:Nat->List Int},(∀i,i<l.length->fP N (F i))-> ∀r∈(zM l.length).map F,r.length=N/\ ∀x∈r,0<=x/\x<=72057594037927936:=fun {F} g r h=>by obtain⟨i,b,rfl⟩:=List.mem_map.1 h;exact g i (List.mem_range.1 b)
 exact⟨c,d.1,by simp [tabL],by simp [tabL],a e,a f,fun x j=>by
  obtain⟨i,b,rfl⟩:=List.getElem_of_mem (l:=l) j;have:=d.2 i b;simp only [zO,XQ b,YM]at this;have c:=this.1;have m:=this.2.1;exact⟨c,by omega⟩⟩
theorem ownRows{c:Hp}(e:OZ c){a:Gra}(b:Good a)(f:cI c j g a){l:List Int}(k:gU a.nodes l)(m:i<l.length):fP a.nodes (toR a l i)/\fP a.nodes (frR a l i):=by have h:=k.2 i m;exact⟨⟨Dd _ _ _,fun x d=>CJ (fun v=>(exTo e b f (by omega) v).le) d⟩,Dd _ _ _,fun x d=>CJ (fun v=>(exFrom e b f (by omega) v).le) d⟩
theorem St.growB{w:Hp}(S:St M w h L G){t y e:TypeId}{f md:Nat}{z new:List Value}{x:Value}(C:Row h b vs md)(a:len*k=vs.length)(D:E.und t=some (.slice e))(F:eP E e f k z)(H:0<f)(q:fj E y=some false)(g:aF h k x=some (m,new))(A:m*k=new.length)(I:0<m)(B:0<k)(r:(vs.length+new.length)*(f+1)<=70368744177664){ts:List TypeId}:
 ∃h' v',dP E h (t::y::ts) (.slice (some ⟨b,0,none⟩) len len) x=some (h',v')/\St M w h' L ((v',k,vs++new)::G):=by
 obtain⟨⟨i,J,rfl,rfl⟩,K,N⟩:=F;obtain⟨p,O,j,d,s⟩:=C;have l:Nat.ble (len+m) len=false:=by
  cases q:Nat.ble (len+m) len with
  |false=>rfl|true=>exact absurd (lbt q) (by omega)
 have o:len+m<=vs.length+new.length:=by rw [<-a,<-A];have I:=YO len B;have P:=YO m B;omega
 have c:(Nat.ble ((len+m)*(i.bytes+1)) 70368744177664&&Nat.blt 0 i.bytes)=true:=by rw [YX (Xu (X4 _ o) r)];simp only [Bool.true_and];rw [Nat.blt_eq];exact H
 have u:Nat.beq z.length i.size=true:=by rw [N];exact Y1 _
 have v:kX p vs.length 0 (len*i.size) new=some (p.pushAll vs.length new,vs.length+new.length):=by unfold kX;rw [a,Y1 vs.length];rfl
 refine⟨h.new (.cells (p.pushAll vs.length new) (vs.length+new.length) e 1),.slice (some ⟨h.n,0,some i.size⟩) (len+m) (len+m),?_,S.newG (n:=len+m) ?_ ?_⟩
 . unfold dP;simp only [q];unfold lC;simp only [D,J,g];unfold ie;rw [l];simp only [cond_false];rw [c,K];simp only [cond_true,u];unfold qx;simp only [j,v]
 . rw [Y4,a,A,Xi]
 . refine⟨p.pushAll vs.length new,e,?_,?_,fun n=>?_⟩
   . rw [Hp.get_new _ _ S.ok,if_pos rfl,Xi]
   . rw [Xi];exact Tr.sized_pushAll _ d
   . rw [Tr.get_pushAll _ _ _ d,List.getElem?_append]
     split
     . exact s n
     . rfl
theorem pos_first{x:Int}: ∀{i:Nat} (a:i<ks.length),ks[i]=x->(∀j (c:j<ks.length),j<i->ks[j]≠x)->pos ks x=some i:=by
 induction ks with
 |nil=>intro i a;simp at a| cons y k f=>
   intro i a b d;cases i with
   |zero=>simp only [XT]at b;unfold pos;rw [if_pos b.symm]| succ i=>
     have g:y≠x:=d 0 (by simp) (by omega);have:=f (i:=i) (by simpa using a) (by simpa using b) (fun j c h=>by have:=d (j+1) (by simpa using c) (by omega);simpa using this);unfold pos;rw [if_neg (fun e=>g e.symm),this];rfl
theorem pos_no{x:Int}(a: ∀j (b:j<ks.length),ks[j]≠x):pos ks x=none:=by
 induction ks with
 |nil=>rfl| cons y f c=>
   have d:y≠x:=a 0 (by simp);unfold pos;rw [if_neg (fun e=>d e.symm),c (fun j b=>by have:=a (j+1) (by simpa using b);simpa using this)];rfl
theorem Fb(ok:OZ A){l:List Int}(L:aH A 1 (encI .i64) v l)(hl:l.length<1000):Ret zB 19 [v] A fun r h'=>Gr A h'/\aH h' 1 (encI .i64) r (norm [] l)/\ ∀c,aA r c->A.n<=c:=by
 have S:=Si ok;have fv:=L.fl;refine erA (n:=46) (rs:=[.tmp 2]) e19 ?_;simp only [BZ];replace S:=(S.nilG (k:=1)).nilG (k:=1);refine aD (fun(i:Nat) g h=>i<=l.length/\ ∃(M D:Value) (p ks:List Int),St NoM A h [] [(D,1,ints ks),(M,1,ints p)]/\norm [] l=p++norm ks (l.drop i)/\p.length=i/\ks.length<=i/\g 0=v/\g 3=M/\g 4=D/\g 5=.int .i64 i) (fun i=>l.length-i) ?_ 0 _ _ ?_
 . clear S;intro i X g h ⟨hi,M,D,p,ks,S,hnm,lo,lk,s,B,C,t⟩;have w:am .i64 ((i:Int)+1)=((i+1:Nat):Int):=(by rw [wrap64]<;>omega);by_cases hlt:i<l.length
   . have Y:l.drop i=l[i]::l.drop (i+1):=YF hlt;obtain⟨c0,o0,Q,Z⟩:=L.ix (kd:=.i64) (aE .i64) hlt;generalize l[i]=x at Y Z;simp only [BZ,s,t,L.lenq,aq,hlt,seval];refine aD (fun(a:Nat) g h'=>h'=h/\a<=ks.length/\(∀j (G:j<ks.length),j<a->ks[j]≠x)/\g 0=v/\g 3=M/\g 4=D/\g 5=.int .i64 i/\g 6=.int .i64 a) (fun a=>ks.length-a) ?_ 0 _ _ ?_
     . clear s B C t;rintro a R g h' ⟨rfl,ha,T,s,B,C,t,N⟩;have wa:am .i64 ((a:Int)+1)=((a+1:Nat):Int):=(by rw [wrap64]<;>omega);have O:aH h' 1 (encI .i64) D ks:=(S.gown _ m0).1.sl rfl (fun _=>rfl) (by decide);have E:h'.load c0 o0 1=some [.int .i64 x]:=S.gr.load Z;have H: ∀(q:Nat) (z:List Int) (u d:Value) (U:Nat->Value) (F:Hp),q=nZ ks x->z=pa ks x->St NoM A F [] [(u,1,ints z),(d,1,ints (p++[(q:Int)]))]->norm [] l=(p++[(q:Int)])++norm z (l.drop (i+1)):=fun q z u d U F e1 e2 _=>(by rw [hnm,Y,norm,<-e1,<-e2,Xz];rfl);by_cases y:a<ks.length
       . obtain⟨c1,o1,x1,I⟩:=O.ix (kd:=.i64) (aE .i64) y;replace I:h'.load c1 o1 1=some [.int .i64 ks[a]]:=I;by_cases P:ks[a]=x
         . simp only [BZ];refine av (aB rfl) (q:=0) (ps:=[]) (by kernel_rfl) ?_;have V: ¬(a:Int)=(ks.length:Int):=(by omega);rw [P]at I;simp only [BZ,cls,ab,s,B,C,t,N,O.lenq,aq,y,x1,I,Q,E,V,seval];refine ag (bD (by exact t38.1) (by exact XP) (by decide) (by rfl)) S ?_;clear S;intro h J S K;simp only [LC,bA,bN,ae,Xo,Xl,Xk,Xq,seval]at S;simp only [BZ,seval];have ps:=pos_first y P T;have f:aF h 1 (.slice (some ⟨J,0,none⟩) 1 1)=some (1,ints [(a:Int)]):=(by simp only [aF];rw [S.lds (b:=J) (o:=0) (n:=1*1) m0 (lbt rfl)];rfl);replace S:=S.drop1;refine dq (S.grow (j:=1) (m:=1) (new:=ints [(a:Int)]) rfl t38.1 XP (by decide) t38.2.2.2.2.2 f rfl (by decide) rfl (by rw [bR,bR];simp;omega)) ?_;clear S f;rintro F d S;simp only [LC]at S;rw [<-fk]at S;simp only [BZ,t,w,seval];refine X (i+1) _ _ (by omega) ⟨by omega,d,D,_,ks,S,H a ks D d g F (by unfold nZ;rw [ps]) (by unfold pa;rw [ps]) S,by simp [lo],by omega,by simp [ao,s,C]⟩
         . simp only [BZ];refine av (aB rfl) (q:=0) (ps:=[]) (by kernel_rfl) ?_;simp only [BZ,cls,s,C,t,N,O.lenq,aq,y,x1,I,Q,E,P,wa,seval];refine R (a+1) _ _ (by omega) ⟨rfl,by omega,fun j G ac=>?_,by simp [ao,s,B,C,t]⟩;by_cases e:j=a
           . subst e;exact P
           . exact T j G (by omega)
       . have ea:a=ks.length:=(by omega);subst ea;have ps:=pos_no (ks:=ks) (x:=x) (fun j G=>T j G G);simp only [BZ];refine av (aB rfl) (q:=0) (ps:=[]) (by kernel_rfl) ?_;simp only [BZ,cls,ab,s,B,C,t,N,O.lenq,aq,y,Q,E,seval];refine ag (bD (by exact t38.1) (by exact XP) (by decide) (by rfl)) S ?_;clear S;intro h J S K;simp only [LC,bA,bN,ae,Xo,Xl,Xk,Xq,seval]at S;simp only [BZ,seval];have f:aF h 1 (.slice (some ⟨J,0,none⟩) 1 1)=some (1,ints [x]):=(by simp only [aF];rw [S.lds (b:=J) (o:=0) (n:=1*1) m0 (lbt rfl)];rfl);replace S:=S.drop1;refine dq (S.grow (j:=0) (m:=1) (new:=ints [x]) rfl t38.1 XP (by decide) t38.2.2.2.2.2 f rfl (by decide) rfl (by rw [bR,bR];simp;omega)) ?_;clear S f;rintro F u S;simp only [LC]at S;rw [<-fk]at S;simp only [BZ,B,N,seval];refine ag (bD (by exact t38.1) (by exact XP) (by decide) (by rfl)) S ?_;clear S;intro h bu S aa;simp only [LC,bA,bN,ae,Xo,Xl,Xk,Xq,seval]at S;simp only [BZ,seval];have f:aF h 1 (.slice (some ⟨bu,0,none⟩) 1 1)=some (1,ints [((ks.length:Nat):Int)]):=(by simp only [aF];rw [S.lds (b:=bu) (o:=0) (n:=1*1) m0 (lbt rfl)];rfl);replace S:=S.drop1;refine dq (S.grow (j:=1) (m:=1) (new:=ints [((ks.length:Nat):Int)]) rfl t38.1 XP (by decide) t38.2.2.2.2.2 f rfl (by decide) rfl (by rw [bR,bR];simp;omega)) ?_;clear S f;rintro F d S;simp only [LC]at S;rw [<-fk]at S;simp only [BZ,t,w,seval];refine X (i+1) _ _ (by omega) ⟨by omega,d,u,_,_,S,H ks.length _ u d g F (by unfold nZ;rw [ps]) (by unfold pa;rw [ps]) S,by simp [lo],by simp;omega,by simp [ao,s]⟩
     . exact⟨rfl,Xd _,fun j G h=>absurd h (by omega),by simp [ao,s,B,C,t]⟩
   . have W:i=l.length:=(by omega);simp only [BZ,ab,s,B,t,L.lenq,aq,hlt,seval];rw [W,List.drop_length,norm,YB]at hnm;rw [hnm];exact⟨S.gr,(S.gown _ m1).1.sl rfl (fun _=>rfl) (by decide),fun c hc=>((S.gblk m1 hc).1).elim (fun h=>h) (fun h=>h.elim)⟩
 . exact⟨Xd _,_,_,[],[],S,rfl,rfl,XA _,by simp [ao,cC]⟩
def Dz(T:Tab):Prop:= ∀i,i<T.l.length->(aW T.to i).getD (T.l.getD i 0).toNat 0=0/\(aW T.fr i).getD (T.l.getD i 0).toNat 0=0
def qY(N z:Nat)(r:List Int):Prop:=r.length=N/\(∀x∈r,0<=x/\x<=72057594037927936)/\r.getD z 0=0
theorem qY.ok{z:Nat}{r:List Int}(h:qY N z r):fP N r:=⟨h.1,h.2.1⟩
theorem dz_tabL{l:List Int}(h: ∀i,i<l.length->qY N (l.getD i 0).toNat (R i)/\qY N (l.getD i 0).toNat (Q i)):Dz (tabL l R Q):=fun i a=>by have a:i<l.length:=a;simp only [tabL];rw [lK a,lK a];exact⟨(h i a).1.2.2,(h i a).2.2.2⟩
theorem Ax{B:List Arc}{s:Nat}(hs:s<N):(qd B N s).getD s 0=0:=by rw [rowD_at hs,(vW (B:=B) (s:=s) (v:=s) (x:=0) (.inl ⟨by decide,.nil,fun _ _=>Xd _⟩)).1];rfl
structure MadeI(has:Nat)(I:Img):Prop where
 g:Good I.g
 t:I.T.isSome=decide (has%2=1)
 c:I.C.isSome=decide (has/2%2=1)
 z: ∀T,I.T=some T->T.l[0]? =some 0/\T.l.length<=4/\gU I.g.nodes T.l
 d: ∀T,I.T=some T->Dz T
theorem Aq(g:a<=255)(b:j<8){t:TypeId}{p:Operand}:bQ E .and t p q (.int .u8 (a:Int)) (.int .u8 ((2 ^j:Nat):Int))=some (.int .u8 ((if a/2 ^j%2=1 then 2 ^j else 0:Nat):Int)):=by
 have h:=ut (E:=E) (t:=t) (p:=p) (q:=q) (k:=.u8) (x:=a) (y:=2 ^j) rfl (by simp only [pw];omega) (pow8 b);rw [h];congr 2;have:a&&& 2 ^j=if a/2 ^j%2=1 then 2 ^j else 0:=by
  refine YZ fun i=>?_;rw [Nat.testBit_and,Nat.testBit_two_pow];have c:a.testBit j=decide (a/2 ^j%2=1):=Nat.testBit_eq_decide_div_mod_eq ..
  by_cases e:j=i
  . subst e;rw [c];by_cases d:a/2 ^j%2=1<;>simp [d]
  . have f: ¬i=j:=fun h=>e h.symm
    split<;>simp [Nat.testBit_two_pow,e,f]
 rw [this]
def TabY(h:Hp)(k:Nat)(p:Value)(N:Nat):Option Tab->Prop
 |none=>p=.pointer none|some T=>(∃m,k<m/\TabAt h m p N T.l (aW T.to) (aW T.fr))/\TabL N T/\Dz T/\T.l[0]? =some 0/\T.l.length<=4/\gU N T.l
theorem TabY.mo{M:Nat->Prop}{h h':Hp}{k N:Nat}{p:Value}{T:Option Tab}(t:TabY h k p N T)(g:Mo M h h')(d: ∀b,M b->b<=k):TabY h' k p N T:=by
 cases T with
 |none=>exact t| some T=>
   obtain⟨⟨m,a,b⟩,c⟩:=t;exact⟨⟨m,a,b.mo g (fun x e=>by have:=d x e;omega)⟩,c⟩
theorem TabY.fl(t:TabY h k p N T):Fl p:=by
 cases T with
 |none=>have t:p=.pointer none:=t;subst t;exact dB|some T=>obtain⟨⟨m,_,b⟩,_⟩:=t;obtain⟨_,_,_,_,rfl,_⟩:=b.ex;exact dB
def uj(O:List Int)(i:Nat):Int:=if O.length=0 then 0 else(O.getD (i%O.length) 0).tmod 5
theorem made28_ok(ok:OZ h0){vB:Value}{s:Nat}{B Y:List Int}(hB:SlW h0 .u8 vB B)(hO:SlW h0 .u8 vO O)(cO: ∀x∈O,0<=x/\x<=255)(hM:SlW h0 .u8 vM ms)(cx: ∀x∈ms,0<=x/\x<=255)(hN:SlW h0 .i64 vN Y)(cN: ∀x∈Y,-9223372036854775808<=x/\x<=9223372036854775807)(hh:s<=255):Ret zB 5 [.agg ⟨[vB,vO,vM,.int .u8 (s:Nat),vN]⟩] h0 fun r h'=>Gr h0 h'/\ ∃b I,r=ptrTo b/\me h' b I/\MadeI s I:=by
 have S:=Si ok;have fB:=hB.sl.fl;have fO:=hO.sl.fl;have fM:=hM.sl.fl;have fN:=hN.sl.fl;have mn:min (B.length:Int) 40=((min B.length 40:Nat):Int):=by omega
 obtain⟨b5,cA,sB,bB⟩:=hB.low (kd':=.i64) (n:=min B.length 40) t22.1 Tryz.t5.2.2.1 (Nat.min_le_left _ _);have cQ:=sB.fl;refine erA (n:=281) (rs:=[.tmp 2]) Tryz.e5 ?_;simp only [BZ,seval];refine ag (bK (by intro x e;cases e)) S ?_;clear S;intro h A S eg;simp only [ae]at S;simp only [BZ,XC,XG,hB.sl.lenq,mn,cA,cQ,S.ld (b:=A) (o:=0) m0 rfl,seval];refine ag (bK (by intro x e;cases e)) S ?_;clear S;intro h bd S b6;simp only [ae]at S;have cT:aH h 1 (encI .u8) b5 (B.take (min B.length 40)):=sB.gr S.gr;have nB: ¬aA b5 bd:=fun L=>by have:=sB.lt ok L;omega
 have cW:(B.take (min B.length 40)).length<1000000:=by rw [Xy];omega
 simp only [BZ,seval];have k0:=S.fr.n;have ap:=S.apart;simp only [keys,Xr,XM,XR,YB,List.nodup_cons,Yb,XY,or_false,not_or]at ap;have en:=(S.row (b:=A) m1).lt S.ok;refine step_ret (raw_ok S.ok (S.row m0) ⟨cT,nB,cW,by omega⟩) ?_;rintro v h ⟨fr,u,vx,vy,va,rfl,aa,ga,hz⟩;have n1:=aa.n1;have n2:=aa.n2;replace S:=S.drop1.step fr (fun c L=>by subst L;exact .inr b6) (fun c L e=>by simp [keys]at L;omega);have fx:=ga.X.fl;have fy:=ga.Y.fl;have fa:=ga.A.fl;have gS:=S.gr;have S0:=S;replace S:=S.base;simp only [BZ,gc];refine ag ay S ?_;clear S;intro h D S eh;simp only [BZ,seval];refine au (stA S (i:=0) t37.2.1 (by simp only [ae,XE,XH,fx.2.1,fy.2.1,fa.2.1,Xh];rfl)) ?_;clear S;rintro h ⟨S,mo⟩;simp only [LC,ae,lay,Xa,Xb,seval]at S;have cY:=ga.mo S.fr (fun c L W=>by have:=hz c L;simp [keys]at W;omega);simp only [BZ,Xj,Xg,Xn,S.lds (b:=D) (o:=0) (n:=4) m0 (lbt rfl),seval];have q4:=(S.row (b:=D) m0).lt S.ok;have q1:=(S.row (b:=A) m1).lt S.ok;refine step_ret (AI S.ok aa.b cY) ?_;rintro v h ⟨p,rfl,g,hp⟩;replace S:=S.call g;obtain⟨P,rfl⟩:=hp.ptr;replace S:=S0.rebase S;have ak:=S.gr;have er:=S.ok;clear S0;replace S:=S.base;simp only [LC,keys,Xr,XM,XR]at S;rename Hp=>hC0;have z4:=(S.row (b:=D) m0).lt S.ok;have z1:=(S.row (b:=A) m1).lt S.ok;simp only [BZ,seval];refine ag (bK (by intro x e;cases e)) S ?_;clear S;intro h F S b8;simp only [ae]at S;have d1:decide (((s%2:Nat):Int)=1)=decide (s%2=1):=decide_eq_decide.2 (by omega);have a2: ∀(t:TypeId) (p q:Operand),bQ zB .and t p q (.int .u8 (s:Nat)) (.int .u8 2)=some (.int .u8 ((if s/2%2=1 then 2 else 0:Nat):Int)):=fun t p q=>Aq hh (j:=1) (by decide);have d2:decide (((if s/2%2=1 then 2 else 0:Nat):Int)=2)=decide (s/2%2=1):=decide_eq_decide.2 (by split<;>omega);have a4: ∀(t:TypeId) (p q:Operand),bQ zB .and t p q (.int .u8 (s:Nat)) (.int .u8 4)=some (.int .u8 ((if s/4%2=1 then 4 else 0:Nat):Int)):=fun t p q=>Aq hh (j:=2) (by decide);have d4:decide (((if s/4%2=1 then 4 else 0:Nat):Int)=4)=decide (s/4%2=1):=decide_eq_decide.2 (by split<;>omega);have a8: ∀(t:TypeId) (p q:Operand),bQ zB .and t p q (.int .u8 (s:Nat)) (.int .u8 8)=some (.int .u8 ((if s/8%2=1 then 8 else 0:Nat):Int)):=fun t p q=>Aq hh (j:=3) (by decide);have d8:decide (((if s/8%2=1 then 8 else 0:Nat):Int)=8)=decide (s/8%2=1):=decide_eq_decide.2 (by split<;>omega);have n7:=b8;have nb: ∀c,c<h0.n-> ¬c∈[D,A]:=fun c L W=>by simp only [Yb,XY,or_false]at W;have:=gS.n;omega
 have c2: ∀c,c∈[D,A]->h0.n<=c:=fun c W=>by simp only [Yb,XY,or_false]at W;have:=gS.n;omega
 have c4: ∀c,aA vM c->c<h0.n:=fun c L=>hM.sl.lt ok L;have c5: ∀c,aA vO c->c<h0.n:=fun c L=>hO.sl.lt ok L;have bv: ∀c,aA vN c->c<h0.n:=fun c L=>hN.sl.lt ok L;have bc: ∀{N:Hp},Mo (· ∈[D,A]) hC0 N->cI N _ (ptrTo P) u:=fun f=>hp.mo f (fun c W=>by simp only [Yb,XY,or_false]at W;omega);simp only [BZ,b_andB (show s<256 by omega),d1,S.ld (b:=A) (o:=3) m2 rfl,seval];refine pC (fun a h'=> ∃pt T,St (· ∈[D,A]) hC0 h' [(F,.row [ptrTo P,pt,.pointer none,.pointer none] 1),(D,.row [.int .i64 u.nodes,vx,vy,va] 1),(A,.row [vB,vO,vM,.int .u8 (s:Nat),vN] 1)] []/\TabY h' F pt u.nodes T/\T.isSome=decide (s%2=1)/\a 1=ptrTo A/\a 4=ptrTo D/\a 5=ptrTo P/\a 7=ptrTo F) ?_ ?_ ?_
 . intro be;simp only [BZ];refine ag (bD (by exact t38.1) (by exact XP) (by decide) (by rfl)) S ?_;clear S;intro h bt S ei;simp only [LC,bA,bN,ae,Xo,Xl,Xk,Xq,seval]at S;simp only [BZ,seval];refine iS (fun a h'=> ∃(X:Value) (l:List Int) (G:List GL),St (· ∈[D,A]) hC0 h' [(bt,.row [.int .i64 0] 1),(F,.row [ptrTo P,.pointer none,.pointer none,.pointer none] 1),(D,.row [.int .i64 u.nodes,vx,vy,va] 1),(A,.row [vB,vO,vM,.int .u8 (s:Nat),vN] 1)] G/\((G=[]/\X=.slice (some ⟨bt,0,none⟩) 1 1/\l=[0])\/G=[(X,1,ints l)])/\gU u.nodes l/\l[0]? =some 0/\l.length<=4/\a 1=ptrTo A/\a 4=ptrTo D/\a 5=ptrTo P/\a 7=ptrTo F/\a 8=X)
    (fun(i:Nat) a h'=>i<=ms.length/\i<=3/\ ∃(X:Value) (l:List Int) (G:List GL),St (· ∈[D,A]) hC0 h' [(bt,.row [.int .i64 0] 1),(F,.row [ptrTo P,.pointer none,.pointer none,.pointer none] 1),(D,.row [.int .i64 u.nodes,vx,vy,va] 1),(A,.row [vB,vO,vM,.int .u8 (s:Nat),vN] 1)] G/\((G=[]/\X=.slice (some ⟨bt,0,none⟩) 1 1/\l=[0])\/G=[(X,1,ints l)])/\gU u.nodes l/\l[0]? =some 0/\l.length<=i+1/\a 1=ptrTo A/\a 4=ptrTo D/\a 5=ptrTo P/\a 7=ptrTo F/\a 8=X/\a 9=.int .i64 i) (fun i=>ms.length-i) ?_ ?_ 0 ⟨Xd _,Xd _,_,[0],[],S,.inl ⟨rfl,rfl,rfl⟩,(mayL_nil _).push (by simp) (by decide) (by omega) (by simp),rfl,by simp,by simp [ao,ah]⟩
   . clear S;intro i ih a h' ⟨V,hi3,X,l,G,S,hG,hl,hl0,hli,E,H,J,r7,r8,r9⟩;have b9:=(hM.sl.gr ak).mo S.fr (fun c L=>nb c (c4 c L));have al: ∀(n:Nat) (d:List Deferred) (rc:Option (Value×Bool)) (ai:Nat->Value),ai 1=ptrTo A->ai 4=ptrTo D->ai 5=ptrTo P->ai 7=ptrTo F->ai 8=X->JP n d rc (fun a h'=> ∃(X:Value) (l:List Int) (G:List GL),St (· ∈[D,A]) hC0 h' [(bt,.row [.int .i64 0] 1),(F,.row [ptrTo P,.pointer none,.pointer none,.pointer none] 1),(D,.row [.int .i64 u.nodes,vx,vy,va] 1),(A,.row [vB,vO,vM,.int .u8 (s:Nat),vN] 1)] G/\((G=[]/\X=.slice (some ⟨bt,0,none⟩) 1 1/\l=[0])\/G=[(X,1,ints l)])/\gU u.nodes l/\l[0]? =some 0/\l.length<=4/\a 1=ptrTo A/\a 4=ptrTo D/\a 5=ptrTo P/\a 7=ptrTo F/\a 8=X) .normal (LL n ai d rc) h':=fun n d rc ai e1 e4 e5 e7 e8=>cK ⟨X,l,G,S,hG,hl,hl0,by omega,e1,e4,e5,e7,e8⟩;have sR:aH h' 1 (encI .i64) X l:=by
      rcases hG with⟨_,rfl,rfl⟩|rfl
      . exact .inr ⟨bt,0,none,1,rfl,XA _,S.lds (b:=bt) (o:=0) (n:=1*1) m0 (lbt rfl)⟩
      . exact(S.gown _ m0).1.sl rfl (fun _=>rfl) (by decide)
     by_cases hlt:i<ms.length
     . by_cases h3:i<3
       . have c3:(i:Int)<3:=(by omega);obtain⟨c,o,aL,bf⟩:=b9.ix (kd:=.i64) (aE .u8) hlt;have hx:=cx _ (Xs hlt);obtain⟨x,ex⟩: ∃x:Nat,ms[i]=x:=⟨ms[i].toNat,by omega⟩;rw [ex]at bf hx;have nz:(u.nodes:Int)≠0:=(by omega);have wc:am .i64 (x:Int)=(x:Int):=(by rw [wrap64]<;>omega);have tm:(x:Int).tmod (u.nodes:Int)=((x%u.nodes:Nat):Int):=(by rw [Xp (by omega)];exact(XZ _ _).symm);have ad:x%u.nodes<u.nodes:=Ye _ (by omega);have w:am .i64 ((i:Int)+1)=((i+1:Nat):Int):=(by rw [wrap64]<;>omega);simp only [BZ,E,r9,hM.sl.lenq,aq,hlt,c3,S.ld (b:=A) (o:=2) m3 rfl,seval];refine av (aB rfl) (q:=0) (ps:=[]) (by kernel_rfl) ?_;simp only [BZ,aV,ax,a9,cls,E,H,r9,aL,bf,encI,wc,fS nz,tm,S.ld (b:=D) (o:=0) m2 rfl,S.ld (b:=A) (o:=2) m3 rfl,seval];generalize x%u.nodes=v at ad;clear b9;refine aD (fun(k:Nat) a N=>k<=l.length/\N=h'/\a 1=ptrTo A/\a 4=ptrTo D/\a 5=ptrTo P/\a 7=ptrTo F/\a 8=X/\a 9=.int .i64 i/\a 10=.int .i64 v/\a 11=.bool (decide ((v:Int)∈l.take k))/\a 12=.int .i64 k) (fun k=>l.length-k) ?_ 0 _ _ ⟨Xd _,rfl,by simp [ao,E,ah,H,J,r7,r8,r9]⟩;clear E H J r7 r8 r9;rintro k ca a N ⟨hk,rfl,E,H,J,r7,r8,r9,bh,ac,bi⟩;have wk:am .i64 ((k:Int)+1)=((k+1:Nat):Int):=(by rw [wrap64]<;>omega);by_cases an:k<l.length
         . have tk:l.take (k+1)=l.take k++[l[k]]:=Xv an;by_cases W:(v:Int)∈l.take k
           . rw [decide_eq_true W]at ac;have c7:(v:Int)∈l.take (k+1):=(by rw [tk];exact YA _ W);simp only [BZ,r8,ac,bi,sR.lenq,aq,an,wk,seval];exact ca (k+1) _ _ (by omega) ⟨by omega,rfl,by simp [ao,E,ah,H,J,r7,r8,r9,bh,c7]⟩
           . rw [decide_eq_false W]at ac;obtain⟨c1,o1,i1,y1⟩:=sR.ix (kd:=.i64) (aE .i64) an;have m2:decide (l[k]=(v:Int))=decide ((v:Int)∈l.take (k+1)):=decide_eq_decide.2 ⟨fun he=>by rw [tk,he];exact XJ _ (List.mem_singleton.2 rfl),fun h=>by
              rw [tk]at h;rcases List.mem_append.1 h with h|h
              . exact absurd h W
              . exact(List.mem_singleton.1 h).symm⟩
             simp only [BZ,r8,bh,ac,bi,sR.lenq,aq,an,wk,i1,y1,encI,m2,seval];exact ca (k+1) _ _ (by omega) ⟨by omega,rfl,by simp [ao,E,ah,H,J,r7,r8,r9,bh]⟩
         . have ek:k=l.length:=(by omega);subst ek;rw [YI]at ac;by_cases W:(v:Int)∈l
           . rw [decide_eq_true W]at ac;simp only [BZ,r8,r9,ac,bi,sR.lenq,aq,an,w,seval];exact ih (i+1) _ _ (by omega) ⟨by omega,by omega,X,l,G,S,hG,hl,hl0,by omega,by simp [ao,E,ah,H,J,r7,r8]⟩
           . rw [decide_eq_false W]at ac;simp only [BZ,r8,r9,bh,ac,bi,sR.lenq,aq,an,seval];refine ag (bD (by exact t38.1) (by exact XP) (by decide) (by rfl)) S ?_;clear S;intro h bu S el;simp only [LC,bA,bN,ae,Xo,Xl,Xk,Xq,seval]at S;simp only [BZ,seval];have bw:aF h 1 (.slice (some ⟨bu,0,none⟩) 1 1)=some (1,ints [(v:Int)]):=(by simp only [aF];rw [S.lds (b:=bu) (o:=0) (n:=1*1) m0 (lbt rfl)];rfl);replace S:=S.drop1;have cc: ∃h3 v',dP zB h [38,38] X (.slice (some ⟨bu,0,none⟩) 1 1)=some (h3,v')/\St (· ∈[D,A]) hC0 h3 [(bt,.row [.int .i64 0] 1),(F,.row [ptrTo P,.pointer none,.pointer none,.pointer none] 1),(D,.row [.int .i64 u.nodes,vx,vy,va] 1),(A,.row [vB,vO,vM,.int .u8 (s:Nat),vN] 1)] [(v',1,ints (l++[(v:Int)]))]:=by
              rcases hG with⟨rfl,rfl,rfl⟩|rfl
              . rw [fk];exact St.growB S (b:=bt) (len:=1) (m:=1) (new:=ints [(v:Int)]) (S.row m0) rfl t38.1 XP (by decide) t38.2.2.2.2.2 bw rfl (by decide) (by decide) (by rw [bR];exact lbt rfl)
              . rw [fk];exact S.grow (j:=0) (m:=1) (new:=ints [(v:Int)]) rfl t38.1 XP (by decide) t38.2.2.2.2.2 bw rfl (by decide) rfl (by rw [bR,bR];simp;omega)
             refine dq cc ?_;clear S bw hG cc sR al;rintro h c8 S;simp only [BZ,r9,w,seval];exact ih (i+1) _ _ (by omega) ⟨by omega,by omega,c8,l++[(v:Int)],_,S,.inr rfl,hl.push (by omega) (by omega) (by omega) W,by rw [List.getElem?_append_left (by have:=(List.getElem?_eq_some_iff.1 hl0).1;exact this)];exact hl0,by simp;omega,by simp [ao,E,ah,H,J,r7]⟩
       . have c3: ¬(i:Int)<3:=(by omega);simp only [BZ,E,r9,hM.sl.lenq,aq,hlt,c3,S.ld (b:=A) (o:=2) m3 rfl,seval];exact al _ _ _ _ (by simp [ao,E,ah]) (by simp [ao,H,ah]) (by simp [ao,J,ah]) (by simp [ao,r7,ah]) (by simp [ao,r8])
     . simp only [BZ,E,r9,hM.sl.lenq,aq,hlt,S.ld (b:=A) (o:=2) m3 rfl,seval];exact al _ _ _ _ (by simp [ao,E,ah]) (by simp [ao,H,ah]) (by simp [ao,J,ah]) (by simp [ao,r7,ah]) (by simp [ao,r8])
   clear S;intro a h' ⟨X,l,G,S,hG,hl,hl0,hl4,E,H,J,r7,r8⟩;have sR: ∀{x:Hp} {L':List (Nat×Ob)} {G':List GL},St (· ∈[D,A]) hC0 x L' G'->(bt,Ob.row [.int .i64 0] 1)∈L'->(∀p∈G,p∈G')->aH x 1 (encI .i64) X l:=fun {x L' G'} U hL db=>by
    rcases hG with⟨_,rfl,rfl⟩|rfl
    . exact .inr ⟨bt,0,none,1,rfl,XA _,U.lds (b:=bt) (o:=0) (n:=1*1) hL (lbt rfl)⟩
    . exact kB.sl (xs:=l) (enc:=encI .i64) (U.gown (X,1,ints l) (db _ m0)).1 rfl (fun _=>rfl) (by decide)
   have l1:1<=l.length:=(List.getElem?_eq_some_iff.1 hl0).1;have fR:Fl X:=(sR S m0 (fun p hp=>hp)).fl;have k7: ∀{x:Hp} {L':List (Nat×Ob)} {G':List GL} {o:Ob},St (· ∈[D,A]) hC0 x L' G'->(F,o)∈L'->F<x.n:=fun U W=>(U.own _ W).2.lt U.ok;have kb: ∀c,c∈[D,A]->c<=F:=fun c W=>(by simp only [Yb,XY,or_false]at W;omega);simp only [BZ,J,r7,r8,seval];refine step_ret (tabOf_ok S.ok aa (bc S.fr) (sR S m0 (fun p hp=>hp)) (by omega)) ?_;rintro pt h ⟨g,hT⟩;replace hT:=(hT.resolve_left (fun h=>h.1 hl)).2;have kn:=k7 S m1;replace S:=S.call g;have own: ∀i,i<l.length->fP u.nodes (toR u l i)/\fP u.nodes (frR u l i):=fun i V=>ownRows S.ok aa (bc S.fr) hl V;have a0: ∀i,i<l.length->qY u.nodes (l.getD i 0).toNat (toR u l i)/\qY u.nodes (l.getD i 0).toNat (frR u l i):=fun i V=>(by have hh:=own i V;have:=hl.2 i V;exact⟨⟨hh.1.1,hh.1.2,Ax (by omega)⟩,⟨hh.2.1,hh.2.2,Ax (by omega)⟩⟩);have Z:TabY h F pt u.nodes (some (tabL l (toR u l) (frR u l))):=⟨⟨_,kn,tabL_at hT⟩,tabL_L hl (by omega) l1 (fun i V=>(own i V).1) (fun i V=>(own i V).2),dz_tabL a0,hl0,hl4,hl⟩;have bx:=Z.fl;simp only [BZ,seval];refine au (aw S (i:=1) rfl t61.2.2.1 bx (Xe (lbt rfl)) ono) ?_;clear S hT;rintro h ⟨S,mo⟩;simp only [LC,ae,lay,Xa,Xb,seval]at S;replace Z:=Z.mo mo (fun b e=>Y3 e);have dd: ∃b,pt=ptrTo b:=(by obtain⟨⟨m,_,x⟩,_⟩:=Z;obtain⟨b,_,_,_,e,_⟩:=x.ex;exact⟨b,e⟩);obtain⟨bT,rfl⟩:=dd;by_cases h4:s/4%2=1
   . have e4:decide (s/4%2=1)=true:=decide_eq_true h4;simp only [BZ,E,r7,a4,d4,e4,S.ld (b:=A) (o:=3) m3 rfl,S.ld (b:=F) (o:=1) m1 rfl,seval];obtain⟨⟨mT,_,tA⟩,tL,_,_,_⟩:=Z;have em:=a0;replace tA:TabAt _ mT (ptrTo bT) u.nodes l (toR u l) (frR u l):=tA.congr (fun i V=>lK V) (fun i V=>lK V);obtain⟨nB,bM⟩: ∃n,n=h.n:=⟨_,rfl⟩;have kS: ∀c∈keys [(bt,.row [.int .i64 0] 1),(F,.row [ptrTo P,ptrTo bT,.pointer none,.pointer none] 1),(D,.row [.int .i64 u.nodes,vx,vy,va] 1),(A,.row [vB,vO,vM,.int .u8 (s:Nat),vN] 1)] G,c<nB:=fun c L=>(by rw [bM];exact S.key_lt L);have gN:hC0.n<=nB:=(by rw [bM];exact S.fr.n);refine step_ret (uA S.ok tA (by omega) (fun i V=>by rw [(own i V).1.1];omega) (fun i V=>by rw [(own i V).2.1];omega)) ?_;rintro _ h ⟨g,vT,vF,kk,rfl,DT,DF,y1,y2⟩;rw [<-bM]at DT y1;obtain⟨nE,de⟩: ∃n,n=h.n:=⟨_,rfl⟩;rw [<-de]at DF y2;replace S:=S.call g;obtain⟨ta,tn,tc,eT⟩:=DT.form;obtain⟨fa,fn,fc,eF⟩:=DF.form;simp only [BZ,seval];refine aD (fun(i:Nat) a N=>i<=l.length/\ ∃(R Q:Nat->List Int),St (· ∈[D,A]) hC0 N [(bt,.row [.int .i64 0] 1),(F,.row [ptrTo P,ptrTo bT,.pointer none,.pointer none] 1),(D,.row [.int .i64 u.nodes,vx,vy,va] 1),(A,.row [vB,vO,vM,.int .u8 (s:Nat),vN] 1)] G/\LLD N nB kk vT l.length R/\LLD N kk nE vF l.length Q/\(∀i,i<l.length->qY u.nodes (l.getD i 0).toNat (R i)/\qY u.nodes (l.getD i 0).toNat (Q i))/\a 1=ptrTo A/\a 4=ptrTo D/\a 5=ptrTo P/\a 7=ptrTo F/\a 8=X/\a 13=vT/\a 14=vF/\a 15=.int .i64 i) (fun i=>l.length-i) ?_ 0 _ _ ⟨Xd _,_,_,S,DT,DF,a0,by simp [ao,E,ah,H,J,r7,r8]⟩;clear S DT DF E H J r7 r8 g mo;intro i ih a N ⟨V,R,Q,S,DT,DF,hRQ,E,H,J,r7,r8,r13,r14,r15⟩;have w:am .i64 ((i:Int)+1)=((i+1:Nat):Int):=(by rw [wrap64]<;>omega);by_cases hlt:i<l.length
     . simp only [BZ,r8,r15,(sR S m0 (fun p hp=>hp)).lenq,aq,hlt,seval];refine aD (fun(v:Nat) a N=>v<=u.nodes/\ ∃(R Q:Nat->List Int),St (· ∈[D,A]) hC0 N [(bt,.row [.int .i64 0] 1),(F,.row [ptrTo P,ptrTo bT,.pointer none,.pointer none] 1),(D,.row [.int .i64 u.nodes,vx,vy,va] 1),(A,.row [vB,vO,vM,.int .u8 (s:Nat),vN] 1)] G/\LLD N nB kk vT l.length R/\LLD N kk nE vF l.length Q/\(∀i,i<l.length->qY u.nodes (l.getD i 0).toNat (R i)/\qY u.nodes (l.getD i 0).toNat (Q i))/\a 1=ptrTo A/\a 4=ptrTo D/\a 5=ptrTo P/\a 7=ptrTo F/\a 8=X/\a 13=vT/\a 14=vF/\a 15=.int .i64 i/\a 16=.int .i64 v) (fun v=>u.nodes-v) ?_ 0 _ _ ⟨Xd _,_,_,S,DT,DF,hRQ,by simp [ao,E,ah,H,J,r7,r8,r13,r14,r15]⟩;clear S DT DF hRQ E H J r7 r8 r13 r14 r15 R Q;intro v bO a N ⟨hv,R,Q,S,DT,DF,hRQ,E,H,J,r7,r8,r13,r14,r15,r16⟩;have wv:am .i64 ((v:Int)+1)=((v+1:Nat):Int):=(by rw [wrap64]<;>omega);by_cases bk:v<u.nodes
       . obtain⟨cm,om,bP,bX⟩:=(sR S m0 (fun p hp=>hp)).ix (kd:=.i64) (aE .i64) hlt;have a1:=(hN.sl.gr ak).mo S.fr (fun c L=>nb c (bv c L));by_cases W:(v:Int)=l[i]
         . have df:=W.symm;simp only [BZ,H,r8,r15,r16,aq,bk,bP,bX,encI,df,wv,S.ld (b:=D) (o:=0) m2 rfl,seval];exact bO (v+1) _ _ (by omega) ⟨by omega,R,Q,S,DT,DF,hRQ,by simp [ao,E,ah,H,J,r7,r8,r13,r14,r15]⟩
         by_cases hz:Y.length=0
         . have c0: ¬(0:Int)<(Y.length:Int):=(by omega);simp only [BZ,E,H,r8,r15,r16,aq,bk,bP,bX,encI,W,hN.sl.lenq,c0,wv,S.ld (b:=D) (o:=0) m2 rfl,S.ld (b:=A) (o:=4) m3 rfl,seval];exact bO (v+1) _ _ (by omega) ⟨by omega,R,Q,S,DT,DF,hRQ,by simp [ao,E,ah,H,J,r7,r8,r13,r14,r15]⟩
         . have c0:(0:Int)<(Y.length:Int):=(by omega);have ch:(Y.length:Int)≠0:=(by omega);have w1:am .i64 ((i:Int)+(v:Int))=((i+v:Nat):Int):=(by rw [wrap64]<;>omega);have w2:am .i64 (3*(i:Int))=((3*i:Nat):Int):=(by rw [wrap64]<;>omega);have w3:am .i64 (((3*i:Nat):Int)+(v:Int))=((3*i+v:Nat):Int):=(by rw [wrap64]<;>omega);have dj:((i+v:Nat):Int).tmod (Y.length:Int)=(((i+v)%Y.length:Nat):Int):=(by rw [Xp (Int.natCast_nonneg _)];exact(XZ _ _).symm);have dn:((3*i+v:Nat):Int).tmod (Y.length:Int)=(((3*i+v)%Y.length:Nat):Int):=(by rw [Xp (Int.natCast_nonneg _)];exact(XZ _ _).symm);simp only [BZ,E,H,r8,r15,r16,aq,bk,bP,bX,encI,W,hN.sl.lenq,c0,S.ld (b:=D) (o:=0) m2 rfl,S.ld (b:=A) (o:=4) m3 rfl,seval];have vz:v≠(l.getD i 0).toNat:=fun e=>(by have h1:=hl.2 i hlt;have N:l.getD i 0=l[i]:=(by simp [zO,hlt]);omega);refine av (aB rfl) (q:=0) (ps:=[]) (by kernel_rfl) ?_;have bY:R i≠ []:=fun e=>(by have:=(hRQ i hlt).1;rw [e]at this;have:=this.1;simp at this;omega);obtain⟨c,⟨q,o,e1,e2⟩,a3,ds,dt,a5⟩:=DT.at hlt bY;have a6:=(hRQ i hlt).1.1;have iv:iC (some 1) (.slice (some ⟨c,0,some 1⟩) (R i).length (R i).length) (.int .i64 (v:Nat))=some (.pointer (some ⟨c,v,none⟩)):=(by rw [ng,ey (by omega),vE,Xl,Xk]);obtain⟨cn,on,a7,af⟩:=a1.ix (kd:=.i64) (aE .i64) (Ye (i+v) (show 0<Y.length by omega));generalize Y[(i+v)%Y.length]'(Ye (i+v) (by omega))=z at af;simp only [BZ,cls,E,r13,r15,r16,hN.sl.lenq,fS ch,w1,dj,e1,e2,a7,af,encI,iv,S.ld (b:=A) (o:=4) m3 rfl,seval];have T:=St.init1 S.ok (o:=.row (ints (R i)) 1) a3;refine dM (aw T (i:=0) rfl Tryz.t2.2.2.1 cE (by rw [bR];omega) ono) ?_;clear T;rintro h3 ⟨T,mo⟩;simp only [Yd,ints_set]at T;have kc: ∀b∈keys [(bt,.row [.int .i64 0] 1),(F,.row [ptrTo P,ptrTo bT,.pointer none,.pointer none] 1),(D,.row [.int .i64 u.nodes,vx,vy,va] 1),(A,.row [vB,vO,vM,.int .u8 (s:Nat),vN] 1)] G,b≠c:=fun b hb e=>(by have:=kS b hb;omega);replace S:=S.step mo (fun b e=>.inr (by have e:b=c:=e;omega)) (fun b hb e=>kc b hb e);have D1:=a5 _ _ mo (Yp ..) (T.row m0);have D2:=DF.mo mo (fun b e=>by have e:b=c:=e;omega);have ba:qY u.nodes (l.getD i 0).toNat ((R i).set v (min (max z 0) 72057594037927936)):=⟨by rw [Yp];exact a6,fun x hx=>by
            rcases YG hx with h|h
            . exact(hRQ i hlt).1.2.1 x h
            . omega,by
            rw [zO,Yl vz,<-zO];exact(hRQ i hlt).1.2.2⟩
           clear DT DF T a5 a3 e2;simp only [BZ,seval];have dv:=ba;have a1:=(hN.sl.gr ak).mo S.fr (fun c L=>nb c (bv c L));refine av (aB rfl) (q:=0) (ps:=[]) (by kernel_rfl) ?_;have bY:Q i≠ []:=fun e=>(by have:=(hRQ i hlt).2;rw [e]at this;have:=this.1;simp at this;omega);obtain⟨c,⟨q,o,e1,e2⟩,a3,ds,dt,a5⟩:=D2.at hlt bY;have a6:=(hRQ i hlt).2.1;have iv:iC (some 1) (.slice (some ⟨c,0,some 1⟩) (Q i).length (Q i).length) (.int .i64 (v:Nat))=some (.pointer (some ⟨c,v,none⟩)):=(by rw [ng,ey (by omega),vE,Xl,Xk]);obtain⟨cn,on,a7,af⟩:=a1.ix (kd:=.i64) (aE .i64) (Ye (3*i+v) (show 0<Y.length by omega));generalize Y[(3*i+v)%Y.length]'(Ye (3*i+v) (by omega))=z at af;simp only [BZ,cls,E,r14,r15,r16,hN.sl.lenq,fS ch,w2,w3,dn,e1,e2,a7,af,encI,iv,S.ld (b:=A) (o:=4) m3 rfl,seval];have T:=St.init1 S.ok (o:=.row (ints (Q i)) 1) a3;refine dM (aw T (i:=0) rfl Tryz.t2.2.2.1 cE (by rw [bR];omega) ono) ?_;clear T;rintro h3 ⟨T,mo⟩;simp only [Yd,ints_set]at T;have kc: ∀b∈keys [(bt,.row [.int .i64 0] 1),(F,.row [ptrTo P,ptrTo bT,.pointer none,.pointer none] 1),(D,.row [.int .i64 u.nodes,vx,vy,va] 1),(A,.row [vB,vO,vM,.int .u8 (s:Nat),vN] 1)] G,b≠c:=fun b hb e=>(by have:=kS b hb;omega);replace S:=S.step mo (fun b e=>.inr (by have e:b=c:=e;omega)) (fun b hb e=>kc b hb e);have D3:=a5 _ _ mo (Yp ..) (T.row m0);have D4:=D1.mo mo (fun b e=>by have e:b=c:=e;omega);have ba:qY u.nodes (l.getD i 0).toNat ((Q i).set v (min (max z 0) 72057594037927936)):=⟨by rw [Yp];exact a6,fun x hx=>by
            rcases YG hx with h|h
            . exact(hRQ i hlt).2.2.1 x h
            . omega,by
            rw [zO,Yl vz,<-zO];exact(hRQ i hlt).2.2.2⟩
           clear D2 D1 T a5 a3 e2;simp only [BZ,r16,wv,seval];exact bO (v+1) _ _ (by omega) ⟨by omega,_,_,S,D4,D3,fun j hj=>⟨by
            by_cases ej:j=i
            . subst ej;simp only [if_true];exact dv
            . simp only [if_neg ej];exact(hRQ j hj).1,by
            by_cases ej:j=i
            . subst ej;simp only [if_true];exact ba
            . simp only [if_neg ej];exact(hRQ j hj).2⟩,by simp [ao,E,ah,H,J,r7,r8,r13,r14,r15]⟩
       . simp only [BZ,H,r7,r8,r13,r14,r15,r16,aq,bk,w,S.ld (b:=D) (o:=0) m2 rfl,seval];exact ih (i+1) _ _ (by omega) ⟨by omega,R,Q,S,DT,DF,hRQ,by simp [ao,E,ah,H,J,r7,r8,r13,r14]⟩
     . simp only [BZ,H,r7,r8,r13,r14,r15,(sR S m0 (fun p hp=>hp)).lenq,aq,hlt,S.ld (b:=D) (o:=0) m2 rfl,seval];refine step_ret (make_ok S.ok (sR S m0 (fun p hp=>hp)) DT.ll DF.ll (by omega) (by omega) hl (fun i V=>(hRQ i V).1.ok) (fun i V=>(hRQ i V).2.ok)) ?_;rintro pt h ⟨g,hT⟩;have kn:=k7 S m1;replace S:=S.call g;have Z:TabY h F pt u.nodes (some (tabL l R Q)):=⟨⟨_,kn,tabL_at hT⟩,tabL_L hl (by omega) l1 (fun i V=>(hRQ i V).1.ok) (fun i V=>(hRQ i V).2.ok),dz_tabL hRQ,hl0,hl4,hl⟩;have bx:=Z.fl;simp only [BZ,seval];refine au (aw S (i:=1) rfl t61.2.2.1 bx (Xe (lbt rfl)) ono) ?_;clear S hT;rintro h ⟨S,mo⟩;simp only [LC,ae,lay,Xa,Xb,seval]at S;replace Z:=Z.mo mo (fun b e=>Y3 e);simp only [BZ];refine cK ⟨_,_,(?_ :St (· ∈[D,A]) hC0 _ _ []),Z,?_,by simp [ao,E,ah,H,J,r7]⟩
       . exact S.sub (YU _ _) (YN _)
       . rw [be];rfl
   . have e4:decide (s/4%2=1)=false:=decide_eq_false h4;simp only [BZ,E,a4,d4,e4,S.ld (b:=A) (o:=3) m3 rfl,seval];refine cK ⟨_,_,(?_ :St (· ∈[D,A]) hC0 _ _ []),Z,?_,by simp [ao,E,ah,H,J,r7]⟩
     . exact S.sub (YU _ _) (YN _)
     . rw [be];rfl
 . intro be;simp only [BZ];exact cK ⟨_,none,S,rfl,by rw [be];rfl,by simp [ao,ah]⟩
 clear S;intro a hA ⟨pt,T,S,Z,hTs,E,H,J,r7⟩;simp only [BZ,E,a2,d2,S.ld (b:=A) (o:=3) m2 rfl,seval];refine pC (fun a h'=> ∃pc pf C,St (· ∈[D,A]) hC0 h' [(F,.row [ptrTo P,pt,pc,pf] 1),(D,.row [.int .i64 u.nodes,vx,vy,va] 1),(A,.row [vB,vO,vM,.int .u8 (s:Nat),vN] 1)] []/\TabY h' F pt u.nodes T/\CelX h' pc pf u C/\C.isSome=decide (s/2%2=1)/\a 1=ptrTo A/\a 4=ptrTo D/\a 5=ptrTo P/\a 7=ptrTo F) ?_ ?_ ?_
 . intro bl;simp only [BZ];have S9:=S;replace S:=S.base;simp only [LC,keys,Xr,XM,XR]at S;have hq: ∀{N:Hp},Mo (· ∈[F,D,A]) hA N->Mo (· ∈[D,A]) hC0 N:=fun f=>S9.fr.trans f (fun c L=>by
    rcases List.mem_cons.1 L with rfl|L
    . exact .inr n7
    . exact .inl L)
   have kb: ∀c,c∈[F,D,A]->c<=F:=fun c W=>(by simp only [Yb,XY,or_false]at W;omega);replace S:=S.nilG (k:=1);refine aD (fun(i:Nat) a h=>i<=u.nodes/\ ∃vQ,St (· ∈[F,D,A]) hA h [(F,.row [ptrTo P,pt,.pointer none,.pointer none] 1),(D,.row [.int .i64 u.nodes,vx,vy,va] 1),(A,.row [vB,vO,vM,.int .u8 (s:Nat),vN] 1)] [(vQ,1,ints ((zM i).map (uj O)))]/\a 1=ptrTo A/\a 4=ptrTo D/\a 5=ptrTo P/\a 7=ptrTo F/\a 17=vQ/\a 18=.int .i64 i) (fun i=>u.nodes-i) ?_ 0 _ _ ⟨Xd _,_,S,by simp [ao,E,ah,H,J,r7]⟩;clear S;clear E H J r7;intro i ih a h ⟨V,vQ,S,E,H,J,r7,r17,r18⟩;have w:am .i64 ((i:Int)+1)=((i+1:Nat):Int):=(by rw [wrap64]<;>omega);have dx:=(hO.sl.gr ak).mo (hq S.fr) (fun c L=>nb c (c5 c L));by_cases hlt:i<u.nodes
   . by_cases cl:O.length=0
     . have c0: ¬(0:Int)<(O.length:Int):=(by omega);simp only [BZ,E,H,r17,r18,aq,hlt,hO.sl.lenq,c0,S.ld (b:=D) (o:=0) m1 rfl,S.ld (b:=A) (o:=1) m2 rfl,seval];refine ag (bD (by exact t38.1) (by exact XP) (by decide) (by rfl)) S ?_;clear S;intro h bs S cp;simp only [LC,bA,bN,ae,Xo,Xl,Xk,Xq,seval]at S;simp only [BZ,seval];refine dq (S.grow (j:=0) (m:=1) (new:=ints [(0:Int)]) rfl t38.1 XP (by decide) t38.2.2.2.2.2 (by simp only [aF];rw [S.lds (b:=bs) (o:=0) (n:=1*1) m0 (lbt rfl)];rfl) rfl (by decide) rfl (by rw [bR,bR];simp;omega)) ?_;clear S;rintro h b0 S;simp only [LC]at S;replace S:=S.drop1;rw [<-fk]at S;simp only [BZ,r18,w,seval];refine ih (i+1) _ _ (by omega) ⟨by omega,b0,?_,by simp [ao,E,ah,H,J,r7]⟩;rw [XL,Xx,List.map_singleton,show uj O i=(0:Int)from by unfold uj;rw [if_pos cl]];exact S
     . have c0:(0:Int)<(O.length:Int):=(by omega);have ad:i%O.length<O.length:=Ye _ (by omega);have tm:(i:Int).tmod (O.length:Int)=((i%O.length:Nat):Int):=(by rw [Xp (by omega)];exact(XZ _ _).symm);obtain⟨c,o,aL,bf⟩:=dx.ix (kd:=.i64) (aE _) ad;have cz:(O.length:Int)≠0:=(by omega);have hx:=cO _ (Xs ad);have t4:(O[i%O.length]).tmod 5=O[i%O.length]%5:=Xp hx.1;have wc:am .i64 ((O[i%O.length]).tmod 5)=(O[i%O.length]).tmod 5:=(by rw [wrap64]<;>omega);simp only [BZ,E,H,r18,aq,hlt,hO.sl.lenq,c0,S.ld (b:=D) (o:=0) m1 rfl,S.ld (b:=A) (o:=1) m2 rfl,seval];refine av (aB rfl) (q:=0) (ps:=[]) (by kernel_rfl) ?_;simp only [BZ,aV,ax,a9,cls,E,r17,r18,hO.sl.lenq,fS cz,tm,aL,bf,encI,fS (n:=5) (by decide),wc,S.ld (b:=A) (o:=1) m2 rfl,seval];refine ag (bD (by exact t38.1) (by exact XP) (by decide) (by rfl)) S ?_;clear S;intro h bs S cp;simp only [LC,bA,bN,ae,Xo,Xl,Xk,Xq,seval]at S;simp only [BZ,seval];refine dq (S.grow (j:=0) (m:=1) (new:=ints [(O[i%O.length]).tmod 5]) rfl t38.1 XP (by decide) t38.2.2.2.2.2 (by simp only [aF];rw [S.lds (b:=bs) (o:=0) (n:=1*1) m0 (lbt rfl)];rfl) rfl (by decide) rfl (by rw [bR,bR];simp;omega)) ?_;clear S;rintro h b0 S;simp only [LC]at S;replace S:=S.drop1;rw [<-fk]at S;simp only [BZ,r18,w,seval];refine ih (i+1) _ _ (by omega) ⟨by omega,b0,?_,by simp [ao,E,ah,H,J,r7]⟩;rw [XL,Xx,List.map_singleton,show uj O i=(O[i%O.length]).tmod 5 from by unfold uj;rw [if_neg cl];simp [zO,ad]];exact S
   . have dC :i=u.nodes:=(by omega);simp only [BZ,H,r7,r17,r18,aq,hlt,S.ld (b:=D) (o:=0) m1 rfl,seval];generalize hL:(zM i).map (uj O)=Ls at S;have lL:Ls.length=u.nodes:=(by rw [<-hL];simp [dC]);have bL:=lmax_bd (K:=((0+Ls.length:Nat):Int)) (by omega) (norm_bd [] Ls);have nl:=CQ [] Ls;have b2: ¬mS (norm [] Ls):=by
      rintro(h|h|h)
      . rw [h]at nl;simp at nl;omega
      . exact h (norm_idem [] Ls)
      . omega
     have sl:aH h 1 (encI .i64) vQ Ls:=(S.gown _ m0).1.sl rfl (fun _=>rfl) (by decide);refine step_ret (Fb S.ok sl (by omega)) ?_;rintro v1 hP ⟨g1,s1,q1⟩;replace S:=S.call g1;simp only [BZ,seval];have k7:=S.key_lt (b:=F) (by simp [keys]);refine step_ret (zU S.ok s1 (by omega) (by omega)) ?_;rintro v2 hR ⟨g2,dF⟩;obtain⟨_,bb⟩:=dF.resolve_left (fun h=>b2 h.1);replace S:=S.call g2;obtain⟨cb,dT⟩: ∃b,v2=ptrTo b:=(by obtain⟨b,_,e,_⟩:=bb;exact⟨b,e⟩);subst dT;have d0:=norm_bd [] Ls;have lm:(norm [] Ls).length=u.nodes:=(by omega);have mz: ∀x∈norm [] Ls,0<=x/\x<256:=fun x hx=>(by have:=d0 x hx;simp only [X3]at this;omega);generalize norm [] Ls=m at bb bL b2 lm mz;have d3: ∃c:Nat->Nat,∀v,v<u.nodes->m.getD v 0=(c v:Int):=⟨fun v=>(m.getD v 0).toNat,fun v hv=>by
      have cr:v<m.length:=(by omega);have:=(mz _ (Xs cr)).1;have e:m.getD v 0=m[v]:=(by rw [zO,XQ cr,YM]);show m.getD v 0=((m.getD v 0).toNat:Int);rw [e];omega⟩
     obtain⟨cf,d5⟩:=d3;obtain⟨Mc,cs⟩: ∃M:Nat,gD m+1=(M:Int):=⟨(gD m+1).toNat,by omega⟩;replace S:St (· ∈[F,D,A]) hA hR [(F,.row [ptrTo P,pt,.pointer none,.pointer none] 1),(D,.row [.int .i64 u.nodes,vx,vy,va] 1),(A,.row [vB,vO,vM,.int .u8 (s:Nat),vN] 1)] []:=S.sub (List.Sublist.refl _) (YN _);have S8:=S;have kz:F<hR.n:=(S8.own _ m0).2.lt S8.ok;replace S:=S.base;simp only [LC,keys,Xr,XM,XR]at S;have b3: ∀{N:Hp},Mo (· ∈[F,D,A]) hR N->Mo (· ∈[F,D,A]) hA N:=fun f=>S8.fr.trans f (fun c L=>.inl L);have br: ∀{N:Hp},Mo (· ∈[F,D,A]) hR N->jF N _ (ptrTo cb) m:=fun f=>bb.mo f (fun c L=>by have:=kb c L;omega);simp only [BZ,seval];refine au (aw S (i:=0) rfl t62.2.2.1 dB (Xe (lbt rfl)) ono) ?_;clear S;rintro h ⟨S,_⟩;simp only [LC,ae,lay,Xa,Xb,seval]at S;simp only [BZ,J,r7,S.ld (b:=F) (o:=2) m0 rfl,seval];have kh:=S.fr.n;refine step_ret (ofB_ok S.ok aa (bc (hq (b3 S.fr))) ⟨br S.fr,lm,d5⟩ cs (by omega)) ?_;rintro _ h ⟨g6,fp,fb,Bt,rfl,nf,es,cv,BN,oB⟩;replace S:=S.call g6;have tz:Tz u.arcs.length ((u.arcs.length+7)/8) Bt:=fun r i h1 N=>by
      cases hb:kD Bt ((u.arcs.length+7)/8) r i with
      |false=>rfl| true=>
        rcases(oB r i N).1 hb with⟨_,h⟩|⟨_,h⟩
        . have:=AX h;omega
        . simp at h
     simp only [BZ,seval];refine au (aw S (i:=0) rfl t63.2.2.1 dB (Xe (lbt rfl)) ono) ?_;clear S;rintro h ⟨S,mo⟩;simp only [LC,ae,lay,Xa,Xb,seval]at S;have bn:jm h fp fb Mc u.arcs.length ((u.arcs.length+7)/8) Bt:=⟨mo.has (o:=.row _ 1) BN.r (fun e=>by have e:fp=F:=e;omega),mo.has (o:=.row _ 1) BN.b (fun e=>by have e:fb=F:=e;omega),BN.lt⟩;clear BN mo oB;have al: ∀{N:Hp} {B:Nat->Nat},Mo (· ∈[F,D,A]) hR N->jm N fp fb Mc u.arcs.length ((u.arcs.length+7)/8) B->Tz u.arcs.length ((u.arcs.length+7)/8) B->TabY N F pt u.nodes T/\CelX N (ptrTo cb) (ptrTo fp) u (some (m,byB (Mc*((u.arcs.length+7)/8)) B)):=fun f b z=>⟨Z.mo (b3 f) kb,_,fp,fb,Mc,_,_,br f,lm,rfl,cs,b,rfl,mz,b2,rfl,z⟩;by_cases h8:s/8%2=1
     . have e8:decide (s/8%2=1)=true:=decide_eq_true h8;simp only [BZ,E,r7,a8,d8,e8,S.ld (b:=A) (o:=3) m2 rfl,S.ld (b:=F) (o:=3) m0 rfl,seval];refine iS (fun a h'=> ∃B,St (· ∈[F,D,A]) hR h' [(F,.row [ptrTo P,pt,ptrTo cb,ptrTo fp] 1),(D,.row [.int .i64 u.nodes,vx,vy,va] 1),(A,.row [vB,vO,vM,.int .u8 (s:Nat),vN] 1)] []/\jm h' fp fb Mc u.arcs.length ((u.arcs.length+7)/8) B/\Tz u.arcs.length ((u.arcs.length+7)/8) B/\a 1=ptrTo A/\a 4=ptrTo D/\a 5=ptrTo P/\a 7=ptrTo F)
        (fun(i:Nat) a h'=>i<=Y.length/\i<=9/\ ∃B,St (· ∈[F,D,A]) hR h' [(F,.row [ptrTo P,pt,ptrTo cb,ptrTo fp] 1),(D,.row [.int .i64 u.nodes,vx,vy,va] 1),(A,.row [vB,vO,vM,.int .u8 (s:Nat),vN] 1)] []/\jm h' fp fb Mc u.arcs.length ((u.arcs.length+7)/8) B/\Tz u.arcs.length ((u.arcs.length+7)/8) B/\a 1=ptrTo A/\a 4=ptrTo D/\a 5=ptrTo P/\a 7=ptrTo F/\a 20=.int .i64 i) (fun i=>Y.length-i) ?_ ?_ 0 ⟨Xd _,Xd _,Bt,S,bn,tz,by simp [ao,E,ah,H,J,r7]⟩
       . clear S bn tz ih E H J r7 r17 r18 w;intro i ih a N ⟨V,hi9,B,S,bm,tz,E,H,J,r7,r20⟩;have w:am .i64 ((i:Int)+1)=((i+1:Nat):Int):=(by rw [wrap64]<;>omega);by_cases hlt:i<Y.length
         . by_cases h9:i<9
           . have c9:(i:Int)<9:=(by omega);have a1:=(hN.sl.gr ak).mo (hq (b3 S.fr)) (fun c L=>nb c (bv c L));obtain⟨cn,on,a7,af⟩:=a1.ix (kd:=.i64) (aE .i64) hlt;generalize Y[i]=z at af;have w5:am .i64 ((u64 z%5:Nat):Int)=((u64 z%5:Nat):Int):=(by rw [wrap64]<;>omega);have m5:((u64 z:Nat):Int).tmod 5=((u64 z%5:Nat):Int):=(by rw [Xp (by omega)];exact(XZ _ _).symm);have q5:am .u64 (((u64 z:Nat):Int).tdiv 5)=((u64 z/5:Nat):Int):=(by have:=u64_lt z;rw [Yn (by omega),show((u64 z:Int)/5)=((u64 z/5:Nat):Int) by omega,bJ rfl];simp only [pw];omega);have ea:((u64 z/5:Nat):Int).tmod 30=((u64 z/5%30:Nat):Int):=(by rw [Xp (by omega)];exact(XZ _ _).symm);have eb:am .i64 ((u64 z/5%30:Nat):Int)=((u64 z/5%30:Nat):Int):=(by rw [wrap64]<;>omega);simp only [BZ,E,r20,hN.sl.lenq,aq,hlt,c9,S.ld (b:=A) (o:=4) m2 rfl,seval];refine av (aB rfl) (q:=0) (ps:=[]) (by kernel_rfl) ?_;simp only [BZ,aV,ax,a9,cls,E,r7,r20,a7,af,encI,wrap_u64,fS (n:=5) (by decide),iD (n:=5) (by decide),fS (n:=30) (by decide),fS (n:=2) (by decide),w5,m5,q5,ea,eb,S.ld (b:=A) (o:=4) m2 rfl,S.ld (b:=F) (o:=3) m0 rfl,seval];refine cF (bSetG_ok S.ok bm cv (by omega) (by have:=aa.many;omega) rfl _) ?_;rintro _ h3 ⟨mo,B',ed,ee⟩;replace S:=S.step mo (fun b e=>.inr (by have e:b=fb:=e;omega)) (fun b hb e=>by
              have e:b=fb:=e;simp only [keys,Xr,XM,XR,YB]at hb;have:=kb b hb;omega)
             simp only [BZ,r20,w,seval];exact ih (i+1) _ _ (by omega) ⟨by omega,by omega,B',S,ed,ee tz,by simp [ao,E,ah,H,J,r7]⟩
           . have c9: ¬(i:Int)<9:=(by omega);simp only [BZ,E,r20,hN.sl.lenq,aq,hlt,c9,S.ld (b:=A) (o:=4) m2 rfl,seval];exact cK ⟨B,S,bm,tz,by simp [ao,E,ah,H,J,r7]⟩
         . simp only [BZ,E,r20,hN.sl.lenq,aq,hlt,S.ld (b:=A) (o:=4) m2 rfl,seval];exact cK ⟨B,S,bm,tz,by simp [ao,E,ah,H,J,r7]⟩
       . clear S bn tz E H J r7 r17 r18;rintro a N ⟨B,S,bm,tz,E,H,J,r7⟩;obtain⟨f1,f2⟩:=al S.fr bm tz;simp only [BZ];exact cK ⟨_,_,some _,S9.rebase (S8.rebase S),f1,f2,by rw [bl];rfl,by simp [ao,E,ah,H,J,r7]⟩
     . have e8:decide (s/8%2=1)=false:=decide_eq_false h8;obtain⟨f1,f2⟩:=al S.fr bn tz;simp only [BZ,E,a8,d8,e8,S.ld (b:=A) (o:=3) m2 rfl,seval];refine cK ⟨_,_,some _,S9.rebase (S8.rebase S),f1,f2,by rw [bl];rfl,by simp [ao,E,ah,H,J,r7]⟩
 . intro bl;simp only [BZ];exact cK ⟨_,_,none,S,Z,⟨rfl,rfl⟩,by rw [bl];rfl,by simp [ao,E,ah,H,J,r7]⟩
 clear S Z E H J r7;intro a hE ⟨pc,pf,C,S,Z,cX,hCs,E,H,J,r7⟩;have hn:=bc S.fr;have gZ:Gr h0 hE:=(ak.fr.trans S.fr (fun c L=>.inr (c2 c L)):Mo NoM h0 hE).gr;simp only [BZ,ab,r7,seval];refine⟨gZ,F,⟨u,T,C⟩,rfl,⟨_,_,_,_,S.row m0,⟨_,hn⟩,aa.b,?_,cX⟩,aa,hTs,hCs,?_,?_⟩
 . cases T with
   |none=>exact Z|some T=>obtain⟨⟨m,_,x⟩,y,_⟩:=Z;exact⟨⟨m,x⟩,y⟩
 . rintro T rfl;obtain⟨_,_,_,x⟩:=Z;exact x
 . rintro T rfl;obtain⟨_,_,x,_⟩:=Z;exact x
structure ImL(I:Img):Prop where
 g:jZ I.g
 t: ∀T,I.T=some T->TabL I.g.nodes T
 c: ∀m F,I.C=some (m,F)->m.length=I.g.nodes/\F.length<=12800/\(∀x∈m,0<=x/\x<256)
theorem ImC.l{h:Hp}{l n d f:Value}{I:Img}(i:ImC h l n d f I):ImL I:=by
 obtain⟨_,a,g,j⟩:=i;refine⟨a,fun T e=>?_,fun m F e=>?_⟩
 . rw [e]at g;exact g.2
 . rw [e]at j;obtain⟨k,r,s,b,c,B,_,o,_,t,_,rfl,p,q,u,_⟩:=(j:lU h d f I.g m F);have: ¬256<gD m+1:=fun h=>q (.inr (.inr h));have:=a.many;refine⟨o,?_,p⟩;have:b*c<=256*50:=XW (by omega) (by omega);simpa [byB]using this
theorem me.l{h:Hp}{b:Nat}{I:Img}(i:me h b I):ImL I:=by obtain⟨_,_,_,_,_,c⟩:=i;exact c.l
theorem C0{a:Gra}(h:jZ a):(ji a).length<=9608:=by
 have:=h.n2;have:=h.many;have b:(a.X.zip a.Y).length=a.nodes:=by rw [YP,h.lX,h.lY];omega
 unfold ji;simp only [Xi,bq,eH rV,eH uE,b];omega
theorem im_size(i:ImL I):((gL I).flatMap Yf).length<=100000:=by
 have f:=C0 i.g;have g:=i.g.n2;have d: ∀T,I.T=some T->(qk T).length<=76865:=fun T e=>by have a:=i.t T e;rw [BU a];have:=a.l2;have:T.l.length*(4+16*I.g.nodes)<=16*4804:=XW this (by omega);omega
 unfold gL;cases a:I.T with
 | none=>
   cases b:I.C with
   |none=>simp;omega| some c=>
     obtain⟨m,F⟩:=c;have:=i.c m F b;simp [gp];omega
 | some T=>
   have:=d T a;cases b:I.C with
   |none=>simp;omega| some c=>
     obtain⟨m,F⟩:=c;have:=i.c m F b;simp [gp];omega
theorem mem_flat{l:List Sec}{x:Sec}(h:x∈l):x.2.length<=(l.flatMap Yf).length:=by
 induction l with
 |nil=>cases h
 | cons y l a=>
   rw [Xc,Xi];rcases List.mem_cons.1 h with rfl|h
   . omega
   . have:=a h;omega
theorem secs_ok(i:ImL I): ∀x∈gL I,secOk x:=fun x a=>⟨Bx I x a,by have:=mem_flat a;have:=im_size i;omega⟩
open Classical in
noncomputable def decT(N:Nat):List Sec->Option (Option Tab×List Sec)
 |(2,b)::l=>if pb N b then some (some (dN N b),l)else none
 |l=>some (none,l)
open Classical in
noncomputable def jB(a:Gra):List Sec->Option (Option (List Int×Bs))
 | []=>some none| [(3,c),(4,f)]=>if mR a c f then some (some (eJ c,f))else none
 |_=>none
open Classical in
noncomputable def oU:List Sec->Option Img
 | (1,b)::l=>if jM b/\gG (dh b)then match decT (dh b).nodes l with
   | some (T,a)=>match jB (dh b) a with
     |some C=>some ⟨dh b,T,C⟩|none=>none
   |none=>none else none
 |_=>none
theorem sec1{l:List Sec}:(l.take 1).map (fun x=>(x.1:Int))=[(k:Int)]↔ ∃b r,l=(k,b)::r:=by
 cases l with
 |nil=>simp| cons x r=>
   obtain⟨a,b⟩:=x;simp only [Xg,Xn,Xr,XM,List.cons.injEq,and_true];constructor
   . intro h;have:a=k:=(by omega);subst this;exact⟨b,r,rfl,rfl⟩
   . rintro⟨c,d,h,_⟩;cases h;rfl
theorem sec2{l:List Sec}:(l.take 2).map (fun x=>(x.1:Int))=[3,4]↔ ∃c f r,l=(3,c)::(4,f)::r:=by
 match l with
 | []=>simp| [x]=>simp| x ::y::r=>
   obtain⟨a,b⟩:=x;obtain⟨c,d⟩:=y;simp only [Xg,Xn,Xr,XM,List.cons.injEq,and_true];constructor
   . intro⟨e,g⟩;have:a=3:=(by omega);have:c=4:=(by omega);subst a c;exact⟨b,d,r,rfl,rfl,rfl⟩
   . rintro⟨h,i,j,e,g,_⟩;cases e;cases g;exact⟨rfl,rfl⟩
theorem AE: ∀{e:List Ent} {s:Bs} {l:List Sec},po e s=some l->l.length=e.length/\ ∀x∈l,x.2.length<=s.length
 | [],s,l,h=>by cases h;exact⟨rfl,fun x d=>(by cases d)⟩
 | (k,n,c)::e,s,l,h=>by
   unfold po at h
   split at h
   . obtain⟨l',f,rfl⟩:=Option.map_eq_some_iff.1 h;obtain⟨a,b⟩:=AE f;refine⟨by simp [a],fun x d=>?_⟩;rcases List.mem_cons.1 d with rfl|d
     . simp;omega
     . have:=b x d;simp at this;omega
   . cases h
theorem entsD_len(n:Nat)(s:Bs):(s9 n s).length=n:=by
 induction n generalizing s with
 |zero=>rfl|succ n a=>simp [s9,a]
theorem Dl{l:List Sec}(h:kU s=.ok l):l.length<=16/\ ∀x∈l,x.2.length+24<=s.length:=by
 unfold kU at h
 split at h
 . rename_i c
   split at h
   . rename_i g e;cases h;obtain⟨a,b⟩:=AE e;rw [entsD_len]at a;exact⟨by rw [a];exact c.2.2.1,fun x d=>by
      have f:=b x d;have i:=List.length_pos_of_mem d;have j:=c.2.2.2.1;rw [YJ]at f;omega⟩
   . cases h
 . cases h
theorem pb.l{N:Nat}{s:Bs}(j:N<=300)(h:pb N s):TabL N (dN N s):=by
 obtain⟨⟨k,l,_⟩,⟨c,d,e⟩,_⟩:=h;obtain⟨m,_,e3,f,e5⟩:=Am N s;have n:(dN N s).to.length=dY s:=by rw [f,e3,Yk,(mZ _ _ 0).1];simp
 have o:(dN N s).fr.length=dY s:=by rw [e5,e3,Yk,(mZ _ _ 0).2];simp
 refine⟨by omega,by omega,by omega,by omega,fun r b=>?_,fun r b=>?_,fun x g=>?_⟩
 . obtain⟨i,a,rfl⟩:=List.mem_iff_getElem.1 b;have:=d i (by omega);unfold fP at this;simpa [aW,zO,a]using this
 . obtain⟨i,a,rfl⟩:=List.mem_iff_getElem.1 b;have:=e i (by omega);unfold fP at this;simpa [aW,zO,a]using this
 . obtain⟨i,a,rfl⟩:=List.mem_iff_getElem.1 g;have:=c.2 i a;rw [show(dN N s).l.getD i 0=(dN N s).l[i] by simp [zO,a]]at this;omega
theorem yr{E:Env}{R:Rec}{cx:Cx}{Q:dW}{v:Value}{l:Loc}{h:Hp}: ∀(k:List Fr),Q (.pan v) l h->Run E R cx Q k (.pan v) l h
 | [],a=>a|f::k,a=>zu.2 (yr k a)
def JQ(n:Nat)(d:List Deferred)(rc:Option (Value×Bool))(J:(Nat->Value)->Hp->Prop)(Q:dW):dW:=fun e l h=>(e=.normal/\ ∃a,l=LL n a d rc/\J a h)\/ ∃v,e=.pan v/\Q (.pan v) l h
theorem sY{Q:dW}{k:List Fr}{c:Code}{l:Loc}(e:Run E (lim E) cx (JQ n d rc J Q) [.code c] .normal l h)(f: ∀ρ h,J ρ h->Run E (lim E) cx Q k .normal (LL n ρ d rc) h):Run E (lim E) cx Q (.code c::k) .normal l h:=by
 obtain⟨j,m,g,b,i⟩:=e;rcases i with⟨rfl,ρ,rfl,a⟩|⟨v,rfl,a⟩
 . exact⟨_,_,_,b,f ρ g a⟩
 . exact⟨_,_,_,b,yr k a⟩
theorem xO{Q:dW}{k:List Fr}(J:(Nat->Value)->Hp->Prop){a b:Code}{c:Nat->Value}{t:Bool}(f:t=true->Run E (lim E) cx (JQ n d rc J Q) [.code a] .normal (LL n c d rc) h)(g:t=false->Run E (lim E) cx (JQ n d rc J Q) [.code b] .normal (LL n c d rc) h)(e: ∀ρ h,J ρ h->Run E (lim E) cx Q k .normal (LL n ρ d rc) h):CStep E cx Q a b k (LL n c d rc) h (.bool t):=by
 cases t with
 |true=>exact sY (f rfl) e|false=>exact sY (g rfl) e
theorem iK{Q:dW}(a:J ρ h):JQ n d rc J Q .normal (LL n ρ d rc) h:=.inl ⟨rfl,ρ,rfl,a⟩
theorem jq_pan{Q:dW}{l:Loc}(hq:Q (.pan v) l h):JQ n d rc J Q (.pan v) l h:=.inr ⟨v,rfl,hq⟩
theorem imDec1_ok{a:Hp}(b:OZ a){d:Nat}:dE zB 78 [ptrTo c,ptrTo d] none a fun o rc h'=>(∃v,o=.ret v)/\rc=none/\Gr a h':=by have S:=Si b;refine enA (n:=18) (rs:=[]) e78 ?_;simp only [BZ,seval];exact dG (cy ⟨rfl,_,rfl,⟨_,rfl⟩,rfl,S.gr⟩)
theorem imDec1_no{f:Hp}{d:Nat}{w:Value}(S:St M f hq L G)(m:L[i]? =some (c,.row [u] 1))(p:L[j]? =some (d,.row [w] 1))(e:i≠j):dE zB 78 [ptrTo c,ptrTo d] (some (trB,false)) hq fun o rc h'=>(∃v,o=.ret v)/\rc=some (trB,true)/\St M f h' ((L.set i (c,.row [.pointer none] 1)).set j (d,.row [.int .i64 25] 1)) G:=by
 have s:=S.ok;refine enA (n:=18) (rs:=[]) e78 ?_;simp only [BZ,trB,seval];refine ag ay S ?_;clear S;intro h g S k;simp only [BZ,seval];refine au (stA S (i:=0) t146.2.1) ?_;clear S;rintro h ⟨S,r⟩;clear r;simp only [LC,ae,lay,Xa,Xb,seval]at S;simp only [BZ,seval];have a:((g,Ob.row [Value.int .i64 25] 1)::L)[i+1]? =some (c,.row [u] 1):=m;have l:=S.ne (i:=0) (j:=i+1) rfl a (by omega);refine av (aB rfl) (q:=0) (ps:=[(1,2)]) (by kernel_rfl) ?_;simp only [BZ,cls,S.ld (b:=g) (o:=0) m0 rfl,seval];refine dM (aw S (i:=i+1) a t27.2.2.1 dB (Xe (lbt rfl)) ono) ?_;clear S;rintro h ⟨S,_⟩;simp only [LC,ae,lay,Xa,Xb,seval]at S;simp only [BZ,cls,seval];refine dM (aw S (i:=j+1) (show(_::_)[j+1]? =_ by rw [XV,Yl e];exact p) t29.2.2.1 cE (Xe (lbt rfl)) ono) ?_;clear S;rintro h ⟨S,_⟩;simp only [LC,ae,lay,Xa,Xb,seval]at S;simp only [BZ,seval];refine⟨by simp only [aR,aZ,aM,bo,aP,ne_eq,not_false_eq_true,bj,bH,aQ,aO,bS,cq,az,Xh,cC,ah,rQ,iu l,iu l.symm,seval],?_⟩;exact dG (cy ⟨rfl,_,rfl,⟨_,rfl⟩,rfl,S.drop1⟩)
theorem imPan{f:Hp}{w:Value}{Q:Value->Hp->Prop}(S:St M f h L G)(g:L[i]? =some (b,.row [u] 1))(l:L[j]? =some (c,.row [w] 1))(d:i≠j)(q:ρ 2=ptrTo b)(r:ρ 3=ptrTo c)(hq: ∀h',St M f h' ((L.set i (b,.row [.pointer none] 1)).set j (c,.row [.int .i64 25] 1)) G->Q (.tuple #[.pointer none,.int .i64 25]) h'):mw zB [.cell 2 27,.cell 3 29] (RetQ Q) (.pan trB) (LL 78 ρ [{target:=.fn (.func 78) #[ptrTo b,ptrTo c],args:=#[]}] none) h:=by
 refine cg (vS (d7 (imDec1_no S g l d) fun o v h' ⟨a,e,T⟩=>⟨a,_,_,e,cy ?_⟩));simp only [if_true];have m: ∀{n:List (Nat×Ob)} {k:Nat} {p:Nat×Ob},n[k]? =some p->p∈n:=fun h=>Yi h;have s:i<L.length:=(List.getElem?_eq_some_iff.1 g).1;have t:j<L.length:=(List.getElem?_eq_some_iff.1 l).1;refine(bF (by decide) (by rw [q];exact jb t27.2.1 (T.ld (m (k:=i) (p:=(b,.row [.pointer none] 1)) (by rw [Yl d.symm,Yv s])) rfl))).2 ?_;refine(bF (by decide) (by rw [r];exact jb t29.2.1 (T.ld (m (k:=j) (p:=(c,.row [.int .i64 25] 1)) (by rw [Yv (by simpa using t)])) rfl))).2 ?_;exact bV.2 (hq h' T)
theorem decI_no{l:List Sec}(h: ¬ ∃b r,l=((1:Nat),b)::r):oU l=none:=by
 unfold oU
 split
 . rename_i b r;exact absurd ⟨b,r,rfl⟩ h
 . rfl
theorem Ct{b:Bs}{l:List Sec}(h: ¬(jM b/\gG (dh b))):oU ((1,b)::l)=none:=by unfold oU;simp only [];rw [if_neg h]
theorem decI_t{b:Bs}{l:List Sec}(h:jM b/\gG (dh b)):oU ((1,b)::l)=match decT (dh b).nodes l with
 | some (T,a)=>match jB (dh b) a with
   |some C=>some ⟨dh b,T,C⟩|none=>none
 |none=>none:=by
 unfold oU;simp only [];exact if_pos h
theorem decT_no{l:List Sec}(h: ¬ ∃b r,l=((2:Nat),b)::r):decT N l=some (none,l):=by
 unfold decT
 split
 . rename_i b r;exact absurd ⟨b,r,rfl⟩ h
 . rfl
theorem xf{a:Gra}{l:List Sec}(h: ¬ ∃c f r,l=(3,c)::(4,f)::r)(b:l≠ []):jB a l=none:=by
 unfold jB
 split
 . exact absurd rfl b
 . rename_i c f;exact absurd ⟨c,f,[],rfl⟩ h
 . rfl
theorem AA{a:Gra}{c:Bs}{l:List Sec}(b:l≠ []):jB a ((3,c)::(4,f)::l)=none:=by
 cases l with
 |nil=>exact absurd rfl b|cons x r=>rfl
def TabK(h:Hp)(k:Nat)(p:Value)(N:Nat):Option Tab->Prop
 |none=>p=.pointer none|some T=>(∃m,k<m/\TabAt h m p N T.l (aW T.to) (aW T.fr))/\TabL N T
theorem TabK.mo{M:Nat->Prop}{h h':Hp}{k N:Nat}{p:Value}{T:Option Tab}(t:TabK h k p N T)(g:Mo M h h')(d: ∀b,M b->b<=k):TabK h' k p N T:=by
 cases T with
 |none=>exact t|some T=>obtain⟨⟨m,a,b⟩,c⟩:=t;exact⟨⟨m,a,b.mo g (fun x e=>by have:=d x e;omega)⟩,c⟩
theorem TabK.x(t:TabK h k p N T):TabX h p N T:=by
 cases T with
 |none=>exact t|some T=>obtain⟨⟨m,_,b⟩,c⟩:=t;exact⟨⟨m,b⟩,c⟩
def DecJ(l:List Sec)(r:Value)(h':Hp):Prop:=match oU l with
 |none=>r=.tuple #[.pointer none,.int .i64 25]|some I=> ∃b,r=.tuple #[ptrTo b,.int .i64 0]/\me h' b I
theorem tW{l:List Sec}(h:oU l=none):DecJ l (.tuple #[.pointer none,.int .i64 25]) h':=by unfold DecJ;rw [h]
theorem decJ_yes{l:List Sec}(h:oU l=some I)(i:me h' b I):DecJ l (.tuple #[ptrTo b,.int .i64 0]) h':=by unfold DecJ;rw [h];exact⟨b,rfl,i⟩
theorem Cu(ok:OZ h0)(bs:s.length<=4839):Ret zB 30 [sv s] h0 fun r h'=>Gr h0 h'/\match kU s with
  | .error e=>r=.tuple #[.pointer none,.int .i64 (if e=true then 24 else 23)]
  | .ok l=>DecJ l r h':=by
 have S:=Si ok;have hs:s.length<=1000000:=by omega
 refine erA (n:=78) (rs:=[.cell 2 27,.cell 3 29]) e30 ?_;simp only [BZ];refine ag ay S ?_;clear S;intro h w S bm;simp only [BZ];refine ag ay S ?_;clear S;intro h B S bp;simp only [BZ,gP (l:=s),seval];refine step_ret (Fy S.ok hs) ?_;rintro _ h1 ⟨g,P⟩;cases df:kU s with
 | error e=>
   have a5:((if e=true then(24:Int)else 23)=0)=False:=(by cases e<;>simp);rw [df]at P;obtain rfl:_=_:=P;replace S:=S.call g;simp only [];generalize(if e=true then(24:Int)else 23)=c at*
   simp only [BZ,seval];refine ag ay S ?_;clear S;intro h p S a0;simp only [BZ,seval];refine au (aw S (i:=0) rfl ?_ ?_ ?_ ono) ?_
   . exact(by simp only [FA0])
   . exact(by exact bW)
   . exact Xe (lbt rfl)
   clear S;rintro h ⟨S,t⟩;clear t;simp only [LC,ae,lay,Xa,Xb,seval]at S;simp only [BZ,seval];refine au (aw S (i:=1) rfl ?_ ?_ ?_ ono) ?_
   . exact(by simp only [FA0])
   . exact(by exact cE)
   . exact Xe (lbt rfl)
   clear S;rintro h ⟨S,t⟩;clear t;simp only [LC,ae,lay,Xa,Xb,seval]at S;simp only [BZ,a5,S.ld (b:=B) (o:=0) m1 rfl,seval];refine rJ (by kernel_rfl) (n:=2) (by kernel_rfl) (aB rfl) (q:=0) (ps:=[(0,1)]) (by kernel_rfl) ?_;simp only [Yx,X3,Xl,Xg,Xn,X8,Xj,seval];simp only [BZ,cls,S.ld (b:=B) (o:=0) m1 rfl,seval];refine dM (aw S (i:=2) rfl ?_ ?_ ?_ ono) ?_
   . exact(by simp only [FA0])
   . exact(by exact dB)
   . exact Xe (lbt rfl)
   clear S;rintro h ⟨S,t⟩;clear t;simp only [LC,ae,lay,Xa,Xb,seval]at S;simp only [BZ,S.ld (b:=B) (o:=0) m1 rfl,seval];have nx:=S.ne (i:=1) (j:=2) rfl rfl (by decide);refine⟨by simp only [aR,aZ,aM,bo,aP,ne_eq,not_false_eq_true,bj,bH,aQ,aO,bS,cq,az,Xh,cC,ah,rQ,iu nx,iu nx.symm,seval],?_⟩;refine au (aw S (i:=1) rfl ?_ ?_ ?_ ono) ?_
   . exact(by simp only [FA0])
   . exact(by exact cE)
   . exact Xe (lbt rfl)
   clear S;rintro h ⟨S,t⟩;clear t;simp only [LC,ae,lay,Xa,Xb,seval]at S;simp only [BZ,ab];refine(bF (by decide) (by simp only [az,ah,seval];exact jb t27.2.1 (S.ld m2 rfl))).2 ?_;refine(bF (by decide) (by simp only [az,ah,seval];exact jb t29.2.1 (S.ld m1 rfl))).2 ?_;exact bV.2 ⟨S.gr,rfl⟩
 |ok l=>
 obtain⟨a6,lb⟩:=Dl df;rw [df]at P;simp only []at P;obtain⟨vl,rfl,sl,nl⟩:=P;have kS: ∀c∈[B,w],c<_:=fun c A=>S.key_lt (by simpa [keys]using A);replace S:=S.call g;have S0:=S;have a7:=S.ok;replace S:=S.base;simp only [LC,keys,Xr,XM,XR]at S;have a8: ∀c,aA vl c->c<h1.n:=fun c A=>sl.sl.lt a7 A;have ak: ∀{L:Hp} {M:Nat->Prop},Mo M h1 L->(∀c,M c->c∈[B,w])->SlK L 2 encS vl l:=fun f hm=>sl.mo f (fun c A hM=>by have:=nl c A;have:=kS c (hm c hM);omega);have bu:Fl vl:=sl.sl.fl;simp only [BZ,seval];refine ag ay S ?_;clear S;intro h p S a0;simp only [BZ,seval];refine au (aw S (i:=0) rfl ?_ ?_ ?_ ono) ?_
 . exact(by simp only [FA0])
 . exact(by assumption)
 . exact Xe (lbt rfl)
 clear S;rintro h ⟨S,t⟩;clear t;simp only [LC,ae,lay,Xa,Xb,seval]at S;simp only [BZ,seval];refine au (aw S (i:=1) rfl ?_ ?_ ?_ ono) ?_
 . exact(by simp only [FA0])
 . exact(by exact cE)
 . exact Xe (lbt rfl)
 clear S;rintro h ⟨S,t⟩;clear t;simp only [LC,ae,lay,Xa,Xb,seval]at S;simp only [BZ,S.ld (b:=B) (o:=0) m1 rfl,seval];refine ag (bD (by exact t38.1) (by exact XP) (by decide) (by rfl)) S ?_;clear S;intro h W S af;simp only [LC,bA,bN,ae,Xo,Xl,Xk,Xq,seval]at S;simp only [BZ,seval];have R:=is_ok S.ok (S.ld (b:=p) (o:=0) m1 rfl) (ak S.fr (fun _ h=>h)) (v:=.slice (some ⟨W,0,none⟩) 1 1) (m:=[1]) (.inr ⟨W,0,none,1,rfl,XA _,S.lds (b:=W) (o:=0) (n:=1*1) m0 (lbt rfl)⟩) (by omega);have O:=sec1 (l:=l) (k:=1);by_cases k1:(l.take ([1]:List Int).length).map (fun x=>(x.1:Int))=[1];rotate_left
 . rw [decide_eq_false k1]at R;refine ar R ?_;intro h g;clear R;replace S:=S.drop1.call g;clear g;simp only [BZ,seval];refine ce (hZ S.ok) ?_;rintro o rc h ⟨rfl,rfl,g⟩;simp only [BZ];exact imPan (S.call g) (i:=2) (j:=1) rfl rfl (by decide) (by simp [ao,ah]) (by simp [ao,ah]) fun h' T=>⟨(S0.rebase T).gr,tW (decI_no fun h=>k1 (O.2 h))⟩
 rw [decide_eq_true k1]at R;obtain⟨b,l1,rfl⟩:=O.1 k1;clear O k1;refine ar R ?_;intro h g;clear R;replace S:=S.drop1.call g;clear g;simp only [BZ,seval];refine ar (iU S.ok) ?_;intro h g;replace S:=S.call g;obtain⟨c,o,D,y⟩:=(ak S.fr (fun _ h=>h)).sl.ix (kd:=.i64) ck (i:=0) (X7 _);rw [XT]at y;have u:_=some [sv b]:=dz y (i:=1) (m:=1) (by decide);have d:iC (some 2) vl (.int .i64 0)=_:=D;have a1:=lb _ (X2 ..);simp only [BZ,d,u,S.ld (b:=p) (o:=0) m0 rfl,seval];refine ce (BF S.ok (s:=b) (by simp only []at a1;omega)) ?_;rintro o rc L ⟨rfl,g,⟨hB,hG,pn,nb,rfl,kb,hN⟩|⟨hG,rfl⟩⟩;rotate_left
 . replace S:=S.call g;simp only [BZ];exact imPan S (i:=2) (j:=1) rfl rfl (by decide) (by simp [ao,ah]) (by simp [ao,ah]) fun h' T=>⟨(S0.rebase T).gr,tW (Ct hG)⟩
 have E:jZ (dh b):=(pE hB (by simp only []at a1;omega)).good hG;have eI:=decI_t (l:=l1) ⟨hB,hG⟩;generalize dh b=I at*
 have kg:=g.n;have a2: ∀c∈[p,B,w],c<_:=fun c A=>S.key_lt (by simpa [keys]using A);replace S:=S.call g;clear g D d y u;have S1:=S;replace S:=S.base;simp only [LC,keys,Xr,XM,XR]at S;obtain⟨bn,rfl⟩:=hN.ptr;have X: ∀{Y:Hp},Mo (· ∈[p,B,w]) L Y->cI Y nb (ptrTo bn) I:=fun f=>hN.mo f (fun c A=>Xt (a2 c A) kb);have ba:SlK L 2 encS vl ((1,b)::l1):=ak S1.fr (fun _ h=>h);have bb: ∀c,aA vl c-> ¬c∈[p,B,w]:=fun c A hM=>by
  have Y:=nl c A;have h4:=a8 c A;rcases List.mem_cons.1 hM with rfl|hM
  . omega
  . have:=kS c hM;omega
 have z: ∀{Y:Hp},Mo (· ∈[p,B,w]) L Y-> ∀{v:Value} {l:List Sec},SlK L 2 encS v l->(∀c,aA v c->aA vl c)->SlK Y 2 encS v l:=by intro Y f v l s hv;exact s.mo f (fun c A=>bb c (hv c A))
 have us:=t33.1;have ss:=t50.2.1;obtain⟨v1,c1,s1,n1⟩:=ba.from (kd:=.i64) us ss ck (n:=1) (XI (Xd _))
 rw [X8,Xj]at s1;have f1:Fl v1:=s1.sl.fl;have bd:cZ zB 33 vl (some (.int .i64 1)) none none=some v1:=c1;have al:l1.length<1000:=by simp at a6;omega
 simp only [BZ,seval];refine ag (bK (by intro x e;cases e)) S ?_;clear S;intro h J S br;simp only [ae]at S;simp only [BZ,seval];refine au (aw S (i:=3) rfl ?_ ?_ ?_ ono) ?_
 . exact(by simp only [FA0])
 . exact(by exact dB)
 . exact Xe (lbt rfl)
 clear S;rintro h ⟨S,t⟩;clear t;simp only [LC,ae,lay,Xa,Xb,seval]at S;simp only [BZ,XC,XG,bd,S.ld (b:=p) (o:=0) m1 rfl,seval];refine au (aw S (i:=1) rfl ?_ ?_ ?_ ono) ?_
 . exact(by simp only [FA0])
 . exact(by assumption)
 . exact Xe (lbt rfl)
 clear S;rintro h ⟨S,t⟩;clear t;simp only [LC,ae,lay,Xa,Xb,seval]at S;simp only [BZ,seval];refine ag (bD (by exact t38.1) (by exact XP) (by decide) (by rfl)) S ?_;clear S;intro h W S af;simp only [LC,bA,bN,ae,Xo,Xl,Xk,Xq,seval]at S;simp only [BZ,seval];have R:=is_ok S.ok (S.ld (b:=p) (o:=0) m2 rfl) (z S.fr s1 n1) (v:=.slice (some ⟨W,0,none⟩) 1 1) (m:=[2]) (.inr ⟨W,0,none,1,rfl,XA _,S.lds (b:=W) (o:=0) (n:=1*1) m0 (lbt rfl)⟩) al;have O:=sec1 (l:=l1) (k:=2);refine ar R ?_;intro h g;clear R;replace S:=S.drop1.call g;clear g;have an: ∀c,c∈[p,B,w]->c<=J:=fun c A=>by have:=a2 c A;omega
 have aL: ∀x∈l1,x.2.length<=4815:=fun x hx=>by have:=lb x (.tail _ hx);omega
 simp only [BZ,seval];refine xO (fun ρ h=> ∃T V pt Q,decT I.nodes l1=some (T,V)/\(∀x∈V,x.2.length<=4815)/\V.length<1000/\St (· ∈[p,B,w]) L h [(J,.row [ptrTo bn,pt,.pointer none,.pointer none] 1),(p,.row [Q] 1),(B,.row [.int .i64 0] 1),(w,.row [ptrTo J] 1)] []/\TabK h J pt I.nodes T/\SlK L 2 encS Q V/\(∀c,aA Q c->aA vl c)/\ρ 2=ptrTo w/\ρ 3=ptrTo B/\ρ 4=ptrTo p/\ρ 5=.func (.func 79) #[] #[ptrTo p]) ?_ ?_ ?_
 . intro G;obtain⟨tb,V,rfl⟩:=O.1 (of_decide_eq_true G);clear G O;obtain⟨c,o,D,y⟩:=(z S.fr s1 n1).sl.ix (kd:=.i64) ck (i:=0) (X7 _);replace y:h.load c o 2=some (encS (2,tb)):=y;have u:_=some [sv tb]:=dz y (i:=1) (m:=1) (by decide);have d:iC (some 2) v1 (.int .i64 0)=_:=D;have ad:=aL _ (X2 ..);have ad:tb.length<=1000000:=(by simp only []at ad;omega);by_cases hT:pb I.nodes tb
   . have tl:=hT.l E.n2;obtain⟨Q,c2,Z,n2⟩:=s1.from (kd:=.i64) us ss ck (n:=1) (XI (Xd _))
     rw [X8,Xj]at Z;have f2:Fl Q:=Z.sl.fl;have be:cZ zB 33 v1 (some (.int .i64 1)) none none=some Q:=c2;simp only [BZ];refine mid_step (uI (ord:=[0,1,2,3,4,5,6,7,8,9,10,11,12]) (by kernel_rfl) (by simp only [gQ,reix,hU,X9,XV,Yy,Xr,XM,cond_true,cond_false,seval];exact rfl)) (n:=9) (by kernel_rfl) (by kernel_rfl) (q:=0) (ps:=[(0,9)]) (by kernel_rfl) (by kernel_rfl) ?_ (hs:=by kernel_rfl);simp only [BZ,cls,d,u,S.ld (b:=w) (o:=0) m3 rfl,S.ld (b:=p) (o:=0) m1 rfl,S.ld (b:=J) (o:=0) m0 rfl,seval];have k2:=S.key_lt (b:=w) (by simp [keys]);have rt:Ret zB 84 [ptrTo bn,sv tb] h fun r h'=>Gr h h'/\ ∃m,h.n<=m/\TabAt h' m r I.nodes (dN I.nodes tb).l (aW (dN I.nodes tb).to) (aW (dN I.nodes tb).fr):=ret_of (d7 (vj S.ok E (X S.fr) ad) fun o rc h' ⟨e,g,q⟩=>by
      subst e;rcases q with⟨_,r,m,rfl,hm,hA⟩|⟨hn,_⟩
      . exact⟨g,m,hm,hA⟩
      . exact absurd hT hn)
     refine cF rt ?_;rintro pt h ⟨g,mt,hm,hA⟩;have aa:=aI g k2;have kx:=S.key_lt (b:=J) (by simp [keys]);replace S:=S.call g;obtain⟨bt,_,_,_,rfl,_⟩:=id hA.ex;simp only [BZ,cls,seval];refine dM (aw S (i:=0) rfl t61.2.2.1 dB (Xe (lbt rfl)) ono) ?_;clear S;rintro h ⟨S,t⟩;simp only [LC,ae,lay,Xa,Xb,seval]at S;have H:TabK h J (ptrTo bt) I.nodes (some (dN I.nodes tb)):=TabK.mo (T:=some (dN I.nodes tb)) ⟨⟨mt,by omega,hA⟩,tl⟩ t (fun b e=>Y3 e);clear t hA g;simp only [BZ,seval];refine⟨by simp only [aR,aZ,aM,bo,aP,ne_eq,not_false_eq_true,bj,bH,aQ,aO,bS,cq,az,Xh,ah,aG aa,aJ aa,seval],?_⟩;simp only [BZ,XC,XG,be,S.ld (b:=p) (o:=0) m1 rfl,seval];refine au (aw S (i:=1) rfl t33.2.2.1 f2 (Xe (lbt rfl)) ono) ?_;clear S;rintro h ⟨S,t⟩;simp only [LC,ae,lay,Xa,Xb,seval]at S;replace H:=H.mo t (fun b e=>by have e:b=p:=e;exact e▸an p m0);simp only [BZ];exact iK ⟨_,V,_,Q,by unfold decT;simp only [];rw [if_pos hT],fun x hx=>aL x (.tail _ hx),by simp at al;omega,S,H,Z,fun c A=>n1 c (n2 c A),by simp [ao,ah]⟩
   . simp only [BZ];refine Bg (uI (ord:=[0,1,2,3,4,5,6,7,8,9,10,11,12]) (by kernel_rfl) (by simp only [gQ,reix,hU,X9,XV,Yy,Xr,XM,cond_true,cond_false,seval];exact rfl)) (n:=9) (by kernel_rfl) (q:=0) (ps:=[(0,9)]) (by kernel_rfl) (by kernel_rfl) rfl (by simp only [Xg,Xn];exact rfl) ?_ (hs:=by kernel_rfl);simp only [BZ,cls,d,u,S.ld (b:=w) (o:=0) m3 rfl,S.ld (b:=p) (o:=0) m1 rfl,S.ld (b:=J) (o:=0) m0 rfl,seval];refine mp_pan (vj S.ok E (X S.fr) ad) ?_;rintro o rc h' ⟨rfl,g,q⟩;refine⟨trB,q.elim (fun x=>absurd x.1 hT) (fun x=>x.2),?_⟩;simp only [BZ,pJ,List.foldl_cons,List.foldl_nil];refine jq_pan (imPan (S.call g) (i:=3) (j:=2) rfl rfl (by decide) (by simp [ao,ah]) (by simp [ao,ah]) fun h' T=>⟨(S0.rebase (S1.rebase T)).gr,tW ?_⟩);rw [eI];unfold decT;simp only [];rw [if_neg hT]
 . intro G;have dT:=decT_no (N:=I.nodes) (l:=l1) fun h=>of_decide_eq_false G (O.2 h);simp only [BZ];exact iK ⟨none,l1,_,v1,dT,aL,al,S,rfl,s1,n1,by simp [ao,ah]⟩
 clear S O;intro ρ h ⟨T,V,pt,Q,dT,lb2,l2n,S,H,Z,n2,r2,r3,r4,r5⟩;rw [dT]at eI;simp only []at eI;have S2:=S;have bh:=S.ok;have f2:Fl Q:=Z.sl.fl;have bv:Fl pt:=by
  cases T with
  |none=>have H:pt=.pointer none:=H;subst H;exact dB|some T=>obtain⟨⟨_,_,x⟩,_⟩:=H;obtain⟨_,_,_,_,rfl,_⟩:=x.ex;exact dB
 clear S;have S:=Si bh;simp only [BZ,r5,seval];refine ag (bD (by exact t38.1) (by exact XP) (by decide) (by rfl)) S ?_;clear S;intro h W S af;simp only [LC,bA,bN,ae,Xo,Xl,Xk,Xq,seval]at S;simp only [BZ,seval];have R:=is_ok S.ok (S.gr.load (S2.ld (b:=p) (o:=0) m1 rfl)) ((z S2.fr Z n2).gr S.gr) (v:=.slice (some ⟨W,0,none⟩) 2 2) (m:=[3,4]) (.inr ⟨W,0,none,2,rfl,XA _,S.lds (b:=W) (o:=0) (n:=2*1) m0 (lbt rfl)⟩) l2n;have O:=sec2 (l:=V);refine ar R ?_;intro h g;clear R;replace g:=S.gr.trans g;replace S:=S2.call g;replace H:=H.mo (M:=NoM) g.fr (fun _ h=>h.elim);clear g;simp only [BZ,seval];refine xO (fun ρ h=> ∃C l3 pc pf v3,(l3=[]->jB I V=some C)/\(l3≠ []->jB I V=none)/\St (· ∈[p,B,w]) L h [(J,.row [ptrTo bn,pt,pc,pf] 1),(p,.row [v3] 1),(B,.row [.int .i64 0] 1),(w,.row [ptrTo J] 1)] []/\TabK h J pt I.nodes T/\(∀(M:Nat->Prop) (h':Hp),Mo M h h'->(∀b,M b->b∈[J,p,B,w])->CelX h' pc pf I C)/\SlK L 2 encS v3 l3/\(∀c,aA v3 c->aA vl c)/\ρ 2=ptrTo w/\ρ 3=ptrTo B/\ρ 4=ptrTo p) ?_ ?_ ?_
 . intro G;obtain⟨sc,sf,l3,rfl⟩:=O.1 (of_decide_eq_true G);clear G O;obtain⟨c,o,D,y⟩:=(z S.fr Z n2).sl.ix (kd:=.i64) ck (i:=0) (X7 _);replace y:h.load c o 2=some (encS (3,sc)):=y;have u:_=some [sv sc]:=dz y (i:=1) (m:=1) (by decide);have d:iC (some 2) Q (.int .i64 0)=_:=D;obtain⟨c',o',a3,hle⟩:=(z S.fr Z n2).sl.ix (kd:=.i64) ck (i:=1) (XI (XI (Xd _)));replace hle:h.load c' o' 2=some (encS (4,sf)):=hle;have ai:_=some [sv sf]:=dz hle (i:=1) (m:=1) (by decide);have ac:iC (some 2) Q (.int .i64 1)=_:=a3;have q1:=lb2 _ (X2 ..);have q2:=lb2 _ (.tail _ (X2 ..));simp only []at q1 q2;have q1:sc.length<=1000000:=(by omega);have q2:sf.length<=1000000:=(by omega);by_cases hC:mR I sc sf
   . obtain⟨v3,c3,s3,n3⟩:=Z.from (kd:=.i64) us ss ck (n:=2) (XI (XI (Xd _)))
     replace s3:SlK L 2 encS v3 l3:=s3;have f3:Fl v3:=s3.sl.fl;have bi:cZ zB 33 Q (some (.int .i64 2)) none none=some v3:=c3;simp only [BZ];refine mid_step (uI (ord:=[0,1,2,3,4,5,6,7,8,9,10,11,12,13,14,15,16,17,18,19,20,21,22,23]) (by kernel_rfl) (by simp only [gQ,reix,hU,X9,XV,Yy,Xr,XM,cond_true,cond_false,seval];exact rfl)) (n:=14) (by kernel_rfl) (by kernel_rfl) (q:=0) (ps:=[(1,20),(1,14),(0,14)]) (by kernel_rfl) (by kernel_rfl) ?_ (hs:=by kernel_rfl);simp only [BZ,cls,r2,r4,d,u,ac,ai,S.ld (b:=w) (o:=0) m3 rfl,S.ld (b:=p) (o:=0) m1 rfl,S.ld (b:=J) (o:=0) m0 rfl,seval];have k2:=S.key_lt (b:=w) (by simp [keys]);have a4: ∀c∈[J,p,B,w],c<_:=fun c A=>S.key_lt (by simpa [keys]using A);have rt:Ret zB 85 [ptrTo bn,sv sc,sv sf] h fun r h'=>Gr h h'/\ ∃pc pf,r=.tuple #[pc,pf]/\ ∀{M:Nat->Prop} {L:Hp},Mo M h' L->(∀b,M b->b<h.n)->lU L pc pf I (eJ sc) sf:=ret_of (d7 (vr S.ok E (X S.fr) q1 q2) fun o rc h' ⟨e,g,q⟩=>by
      subst e;rcases q with⟨_,pc,pf,rfl,K⟩|⟨hn,_⟩
      . exact⟨g,pc,pf,rfl,K⟩
      . exact absurd hC hn)
     refine cF rt ?_;rintro _ h4 ⟨g,pc,pf,rfl,K⟩;have aa:=aI g k2;replace S:=S.call g;replace H:=H.mo (M:=NoM) g.fr (fun _ h=>h.elim);have S3:=S;have nx:=S.ne (i:=0) (j:=3) rfl rfl (by decide);replace S:=S.base;simp only [LC,keys,Xr,XM,XR]at S;obtain⟨bc,bf,rfl,rfl⟩:=(K (M:=NoM) (Gr.refl S.ok).fr (fun _ h=>h.elim)).ptr;simp only [BZ,cls,seval];refine dM (aw S (i:=0) rfl t62.2.2.1 dB (Xe (lbt rfl)) ono) ?_;clear S;rintro h ⟨S,_⟩;simp only [LC,ae,lay,Xa,Xb,seval]at S;simp only [BZ,cls,seval];refine dM (aw S (i:=0) rfl t63.2.2.1 dB (Xe (lbt rfl)) ono) ?_;clear S;rintro h ⟨S,_⟩;simp only [LC,ae,lay,Xa,Xb,seval]at S;simp only [BZ,if_false,r4,seval];refine⟨by simp only [aR,aZ,aM,bo,aP,ne_eq,not_false_eq_true,bj,bH,aQ,aO,bS,cq,az,Xh,r2,r3,r4,ah,rQ,aG aa,aJ aa,iu nx,iu nx.symm,seval],?_⟩;simp only [BZ,XC,XG,r4,bi,S.ld (b:=p) (o:=0) m1 rfl,seval];refine au (aw S (i:=1) rfl t33.2.2.1 f3 (Xe (lbt rfl)) ono) ?_;clear S;rintro h ⟨S,_⟩;simp only [LC,ae,lay,Xa,Xb,seval]at S;simp only [BZ];refine iK ⟨some (eJ sc,sf),l3,_,_,v3,fun e=>by subst e;unfold jB;simp only [];rw [if_pos hC],AA,S3.rebase S,H.mo S.fr (fun b G=>?_),fun M h' t hm=>K (S.fr.trans t (fun b G=>.inl (hm b G))) a4,s3,fun c A=>n2 c (n3 c A),by simp [ao,r2,ah,r3,r4]⟩;rcases List.mem_cons.1 G with rfl|G
     . exact XA _
     . exact an b G
   . simp only [BZ];refine Bg (uI (ord:=[0,1,2,3,4,5,6,7,8,9,10,11,12,13,14,15,16,17,18,19,20,21,22,23]) (by kernel_rfl) (by simp only [gQ,reix,hU,X9,XV,Yy,Xr,XM,cond_true,cond_false,seval];exact rfl)) (n:=14) (by kernel_rfl) (q:=0) (ps:=[(1,20),(1,14),(0,14)]) (by kernel_rfl) (by kernel_rfl) rfl (by simp only [Xg,Xn];exact rfl) ?_ (hs:=by kernel_rfl);simp only [BZ,cls,r2,r4,d,u,ac,ai,S.ld (b:=w) (o:=0) m3 rfl,S.ld (b:=p) (o:=0) m1 rfl,S.ld (b:=J) (o:=0) m0 rfl,seval];refine mp_pan (vr S.ok E (X S.fr) q1 q2) ?_;rintro o rc h' ⟨rfl,g,q⟩;refine⟨trB,q.elim (fun x=>absurd x.1 hC) (fun x=>x.2),?_⟩;simp only [BZ,pJ,List.foldl_cons,List.foldl_nil];refine jq_pan (imPan (S.call g) (i:=3) (j:=2) rfl rfl (by decide) (by simp [ao,r2,ah]) (by simp [ao,r3,ah]) fun h' T=>⟨(S0.rebase (S1.rebase T)).gr,tW ?_⟩);rw [eI];by_cases e:l3=[]
     . subst e;unfold jB;simp only [];rw [if_neg hC]
     . rw [AA e]
 . intro G;have d0: ¬ ∃c f r,V=(3,c)::(4,f)::r:=fun h=>of_decide_eq_false G (O.2 h);simp only [BZ];exact iK ⟨none,V,_,_,Q,fun e=>by subst e;rfl,xf d0,S,H,fun _ _ _ _=>⟨rfl,rfl⟩,Z,n2,by simp [ao,r2,ah,r3,r4]⟩
 clear S S2 H r2 r3 r4 r5 Z n2 f2 O;intro ρ h ⟨C,l3,pc,pf,v3,e1,e2,S,H,cX,s3,n3,r2,r3,r4⟩;have z0:((0:Nat):Int)=0:=rfl;by_cases Y:l3=[];rotate_left
 . have hz: ¬((l3.length:Nat):Int)=0:=fun h=>Y (List.length_eq_zero_iff.1 (by omega));simp only [BZ,r4,(z S.fr s3 n3).sl.lenq,hz,S.ld (b:=p) (o:=0) m1 rfl,seval];refine ce (hZ S.ok) ?_;rintro o rc h ⟨rfl,rfl,g⟩;simp only [BZ];refine imPan (S.call g) (i:=3) (j:=2) rfl rfl (by decide) (by simp [ao,r2,ah]) (by simp [ao,r3,ah]) fun h' T=>⟨(S0.rebase (S1.rebase T)).gr,tW ?_⟩;rw [eI,e2 Y]
 subst Y;rw [e1 rfl]at eI;simp only []at eI;simp only [BZ,r4,(z S.fr s3 n3).sl.lenq,z0,S.ld (b:=p) (o:=0) m1 rfl,seval];refine ar (iU S.ok) ?_;intro h g;replace S:=S.call g;replace H:=H.mo (M:=NoM) g.fr (fun _ h=>h.elim);have gn:=g;have S4:=S;have oS:=S.ok;replace S:=S.base;simp only [LC,keys,Xr,XM,XR]at S;simp only [BZ,r2,S.ld (b:=w) (o:=0) m3 rfl,seval];refine au (aw S (i:=3) rfl ?_ ?_ ?_ ono) ?_
 . exact(by simp only [FA0])
 . exact(by exact dB)
 . exact Xe (lbt rfl)
 clear S;rintro h ⟨S,t⟩;clear t;simp only [LC,ae,lay,Xa,Xb,seval]at S;simp only [BZ,if_false,r3,seval];refine au (aw S (i:=2) rfl ?_ ?_ ?_ ono) ?_
 . exact(by simp only [FA0])
 . exact(by exact cE)
 . exact Xe (lbt rfl)
 clear S;rintro h ⟨S,t⟩;clear t;simp only [LC,ae,lay,Xa,Xb,seval]at S;simp only [BZ];refine ig (un_fn (d7 (imDec1_ok S.ok) fun o rc h' ⟨a,e,g⟩=>⟨a,e,cy ⟨rfl,?_⟩⟩));have F:=(gn.fr.trans S.fr (M':=(· ∈[J,p,B,w])) (M:=(· ∈[J,p,B,w])) (fun _ h=>.inl h)).trans (M':=NoM) g.fr (fun _ h=>h.elim);have T:=S.call g;refine(bF (by decide) (by simp only [az,ah,r2,r3,seval];exact jb t27.2.1 (T.ld m3 rfl))).2 ?_;refine(bF (by decide) (by simp only [az,ah,r2,r3,seval];exact jb t29.2.1 (T.ld m2 rfl))).2 ?_;have U:=S0.rebase (S1.rebase (S4.rebase T));have bl:=H.mo (T.fr) (fun b G=>by
  rcases List.mem_cons.1 G with rfl|G
  . exact XA _
  . exact an b G)
 exact bV.2 ⟨U.gr,decJ_yes eI ⟨_,_,_,_,T.row m0,⟨nb,X (S4.rebase T).fr⟩,E,bl.x,cX _ _ F (fun _ h=>h)⟩⟩
def mg(I:Img):Tab:=I.T.getD ⟨[],[],[]⟩
def ofP(I:Img):List Int:=(I.C.map Prod.fst).getD []
def flP(I:Img):Bs:=(I.C.map Yf).getD []
structure pQ(h:Hp)(vx vy va vM vT vF vO:Value)(I:Img):Prop where
 g:cL h vx vy va I.g
 M:aH h 1 (encI .i64) vM (mg I).l
 T:cS h 0 vT (mg I).to.length (aW (mg I).to)
 F:cS h 0 vF (mg I).fr.length (aW (mg I).fr)
 O:aH h 1 (encI .i64) vO (ofP I)
theorem pQ.gr{h h':Hp}{a b c d e f vO:Value}{I:Img}(p:pQ h a b c d e f vO I)(g:Gr h h'):pQ h' a b c d e f vO I:=⟨p.g.gr g,p.M.gr g,p.T.gr g,p.F.gr g,p.O.gr g⟩
def plC(I:Img)(a b c d e f vO:Value):List Value:=[.int .i64 I.g.nodes,a,b,c,d,e,f,vO,sv (flP I)]
def ip(c h:Hp)(v:Value)(xs:List Sec):Prop:= ∃b a,v=.slice (some ⟨b,0,a⟩) xs.length xs.length/\c.n<=b/\Row h b (xs.flatMap encS) 1/\(a=none\/a=some 2)
theorem ip.gr{a h h':Hp}{v:Value}{xs:List Sec}(q:ip a h v xs)(g:Gr h h'):ip a h' v xs:=by obtain⟨b,c,e,n,r,s⟩:=q;exact⟨b,c,e,n,r.gr g,s⟩
theorem ip.sl{a:Hp}(q:ip a h v xs):aH h 2 encS v xs:=by obtain⟨b,c,rfl,n,r,s⟩:=q;refine .inr ⟨b,0,c,_,rfl,XA _,?_⟩;rw [r.load (by rw [aK ck];omega),Xj,Xm (by rw [aK ck];omega)]
theorem Cj(xs ys:List Sec):(xs++ys).flatMap encS=xs.flatMap encS++ys.flatMap encS:=XD
theorem sec_app{a:Hp}(g:Gr a h){x:Value}{ys:List Sec}(q:ip a h v xs)(f:aF h 2 x=some (m,ys.flatMap encS))(t:m=ys.length)(D:0<m)(K:xs.length<=100)(u:ys.length<=100){ts:List TypeId}:
 ∃h' v',dP zB h (33::33::ts) v x=some (h',v')/\Gr a h'/\ip a h' v' (xs++ys):=by
 obtain⟨b,L,rfl,n,r,s⟩:=q;have w:(xs.flatMap encS).length=xs.length*2:=aK ck _;have A:(ys.flatMap encS).length=ys.length*2:=aK ck _;have B:((xs.flatMap encS).length+(ys.flatMap encS).length)*(24+1)<=70368744177664:=by omega
 have i: ∀{h':Hp} {v':Value},St NoM a h' [] [(v',2,xs.flatMap encS++ys.flatMap encS)]->Gr a h'/\ip a h' v' (xs++ys):=by
  intro h' v' S;refine⟨S.gr,?_⟩;obtain⟨E,F⟩:=S.gown _ m0;rcases E with⟨_,e⟩|⟨c,k,e,G,R⟩
  . have:=congrArg List.length e;simp only [Xi,X3]at this;omega
  . simp only [Xi]at G e;have:k=(xs++ys).length:=(by rw [Xi];omega);subst this;subst e;exact⟨c,some 2,rfl,(F c rfl).resolve_right (fun h=>h),by rw [Cj];exact R,.inr rfl⟩
 have H:St NoM a h [] []:=⟨g.fr,fun p d=>(by cases d),fun p d=>(by cases d),List.nodup_nil⟩;rcases s with rfl|rfl
 . obtain⟨h',v',e,S⟩:=St.growB H (ts:=ts) r (by rw [w]) t33.1 Yz (by decide) t33.2.2.2.2.2 f (by rw [A,t]) D (by decide) B;obtain⟨l,o⟩:=i S;exact⟨h',v',e,l,o⟩
 . have I:St NoM a h [] [(.slice (some ⟨b,0,some 2⟩) xs.length xs.length,2,xs.flatMap encS)]:=⟨g.fr,fun p d=>(by cases d),fun p d=>by
    rcases List.mem_singleton.1 d with rfl;exact⟨.inr ⟨b,_,rfl,by rw [w],r⟩,fun c J=>by cases J;exact .inl n⟩,by simp [keys,gy]⟩
   obtain⟨h',v',e,S⟩:=I.grow (j:=0) (ts:=ts) rfl t33.1 Yz (by decide) t33.2.2.2.2.2 f (by rw [A,t]) (by decide) (by
    rw [List.all_eq_true];intro y u;obtain⟨z,_,C⟩:=List.mem_flatMap.1 u;simp only [encS,Yb,XY,or_false]at C;rcases C with rfl|rfl<;>rfl) B
   obtain⟨l,o⟩:=i S;exact⟨h',v',e,l,o⟩
theorem cS.le{g:Nat}(a:cS h m v n R)(j:g<=m):cS h g v n R:=by obtain⟨l,b,c,d,e⟩:=a;exact⟨l,b,c,fun x f=>Xu j (d x f),fun i w k=>⟨(e i w k).1,fun x f=>Xu j ((e i w k).2 x f)⟩⟩
theorem cS.nil:cS h m (.slice none 0 0) 0 R:=⟨[],.inl ⟨rfl,rfl⟩,rfl,fun c h=>h.elim,fun i w a=>by simp at a⟩
def tabQ(T:Option Tab):Tab:=T.getD ⟨[],[],[]⟩
structure nI(h:Hp)(m:Nat)(vM vT vF:Value)(T:Option Tab):Prop where
 mm:aH h 1 (encI .i64) vM (tabQ T).l
 b: ∀c,aA vM c->m<=c
 tt:cS h m vT (tabQ T).to.length (aW (tabQ T).to)
 ff:cS h m vF (tabQ T).fr.length (aW (tabQ T).fr)
theorem nI.mo{M:Nat->Prop}{h h':Hp}{m:Nat}{e f i:Value}{T:Option Tab}(a:nI h m e f i T)(g:Mo M h h')(d: ∀b,M b->b<m):nI h' m e f i T:=
 ⟨a.mm.mo g (fun c j k=>by have:=d _ k;have:=a.b c j;omega),a.b,a.tt.mo g d,a.ff.mo g d⟩
theorem nI.none{h:Hp}{m:Nat}:nI h m (.slice none 0 0) (.slice none 0 0) (.slice none 0 0) none:=⟨.inl ⟨rfl,rfl⟩,fun c h=>h.elim,cS.nil,cS.nil⟩
structure GraV(h:Hp)(m:Nat)(vx vy va:Value)(γ:Gra):Prop where
 g:cL h vx vy va γ
 b: ∀c,(aA vx c\/aA vy c\/aA va c)->m<=c
theorem GraV.mo{M:Nat->Prop}{h h':Hp}{m:Nat}{d e f:Value}{i:Gra}(a:GraV h m d e f i)(g:Mo M h h')(j: ∀b,M b->b<m):GraV h' m d e f i:=
 ⟨a.g.mo g (fun c k l=>by have:=j _ l;have:=a.b c k;omega),a.b⟩
structure OfV(h:Hp)(m:Nat)(vO:Value)(l:List Int):Prop where
 s:aH h 1 (encI .i64) vO l
 b: ∀c,aA vO c->m<=c
theorem OfV.mo{M:Nat->Prop}{h h':Hp}{m:Nat}{vO:Value}{l:List Int}(a:OfV h m vO l)(g:Mo M h h')(d: ∀b,M b->b<m):OfV h' m vO l:=
 ⟨a.s.mo g (fun c e f=>by have:=d _ f;have:=a.b c e;omega),a.b⟩
theorem oQ{l:List Sec}{e:TypeId}(s:SlK h 2 encS v l)(a:l.length=n):oX (some (.slice e)) h' v=some (.val (.int .i64 (n:Int)),h'):=by subst a;exact s.sl.lenq
theorem run_joinB{Q:dW}{k:List Fr}(J:(Nat->Value)->Hp->Prop){a b c:Code}{l:Loc}(j:Run E (lim E) cx (JQ n d rc J Q) [.code a,.code b] .normal l h)(m: ∀ρ h,J ρ h->Run E (lim E) cx Q (.code c::k) .normal (LL n ρ d rc) h):Run E (lim E) cx Q (.code (.seq a (.seq b c))::k) .normal l h:=by
 rw [uf];obtain⟨g,o,p,q,f⟩:=j;refine⟨g,o,p,q,?_⟩;cases g with
 |normal=>rw [uf];exact sY f m|exit i=>rcases(f:JQ n d rc J Q _ _ _)with⟨e,_⟩|⟨v,e,_⟩<;>cases e
 |ret=>rcases(f:JQ n d rc J Q _ _ _)with⟨e,_⟩|⟨v,e,_⟩<;>cases e
 | pan v=>
   rcases(f:JQ n d rc J Q _ _ _)with⟨e,_⟩|⟨v,e,r⟩
   . cases e
   . cases e;exact yr _ r
theorem run_joinN{Q:dW}{k:List Fr}(J:(Nat->Value)->Hp->Prop){a b c:Code}{l:Loc}(e:Run E (lim E) cx (JQ n d rc J Q) [.code a,.code b] .normal l h)(f: ∀ρ h,J ρ h->Run E (lim E) cx Q (.code c::k) .normal (LL n ρ d rc) h):Run E (lim E) cx Q (.ops os []:: .code (.seq a (.seq b c))::k) .normal l h:=tO.2 (run_joinB J e f)
theorem decC_3{a:Gra}{x y z:Sec}{l:List Sec}:jB a (x::y::z::l)=none:=by
 unfold jB
 split
 . rename_i h;cases h
 . rename_i h;cases h
 . rfl
theorem decC_bad{a:Gra}{c:Bs}(h: ¬mR a c f):jB a [(3,c),(4,f)]=none:=by unfold jB;simp only [];rw [if_neg h]
theorem decC_yes{a:Gra}{c:Bs}(h:mR a c f):jB a [(3,c),(4,f)]=some (some (eJ c,f)):=by unfold jB;simp only [];rw [if_pos h]
theorem pl_of{a b c d f:Value}{i:Gra}{C:Option (List Int×Bs)}(g:GraV h m a b c i)(t:nI h m d e f T)(o:OfV h m vO ((C.map Prod.fst).getD [])):pQ h a b c d e f vO ⟨i,T,C⟩:=
 ⟨g.g,t.mm,t.tt.le (Xd _),t.ff.le (Xd _),o.s⟩
def nil9:List Value:=[.int .i64 0,.slice none 0 0,.slice none 0 0,.slice none 0 0,.slice none 0 0,.slice none 0 0,.slice none 0 0,.slice none 0 0,sv []]
def D28(l:List Sec)(r:Value)(h':Hp):Prop:=match oU l with
 |none=>r=.tuple #[.agg ⟨nil9⟩,.int .i64 25]|some I=> ∃a b c d e f g,r=.tuple #[.agg ⟨plC I a b c d e f g⟩,.int .i64 0]/\pQ h' a b c d e f g I
theorem dec28_ok(ok:OZ h0)(bs:s.length<=4839):Ret zB 31 [sv s] h0 fun r h'=>Gr h0 h'/\match kU s with
 | .error e=>r=.tuple #[.agg ⟨nil9⟩,.int .i64 (if e=true then 24 else 23)]
 | .ok l=>D28 l r h':=by
 have S:=Si ok;have dl:=fun l=>Dl (s:=s) (l:=l);refine erA (n:=115) (rs:=[.cell 2 43,.tmp 3]) e31 ?_;simp only [BZ];refine ag ay S ?_;clear S;intro h F S bp;simp only [BZ,seval];refine step_ret (dec27_ok S.ok (s:=s) (by omega)) ?_;rintro r h1 ⟨g,q⟩;replace S:=S.call g;cases hF:kU s with
 | error e=>
   rw [hF]at q;simp only []at q;subst q;have e0: ¬((if e=true then 24 else 23:Int)=0):=(by cases e<;>decide);simp only [BZ,e0,seval];refine au (stA S (i:=0) t43.2.1) ?_;clear S;rintro h ⟨S,j⟩;simp only [LC,ae,lay,Xa,Xb,seval]at S;simp only [BZ,ab,seval];refine(bF (by decide) (by simp only [az,ah,cC,seval];exact bz t43.1 t43.2.1 (S.lds (b:=F) (o:=0) (n:=9) m0 (lbt rfl)))).2 ((dk (by decide)).2 (bV.2 ?_));exact⟨S.gr,rfl⟩
 |ok l=>
 rw [hF]at q;obtain⟨vl,rfl,sl⟩:=q;obtain⟨bt,lb⟩:=dl l hF;clear dl hF;have fl:=sl.sl.fl;have no: ∀{h:Hp},Gr h0 h->oU l=none->Gr h0 h/\D28 l (.tuple #[.agg ⟨nil9⟩,.int .i64 25]) h:=fun g e=>by unfold D28;rw [e];exact⟨g,rfl⟩
 have aL: ∀{h:Hp} {I:Img} {vx vy va vM V W vO:Value},Gr h0 h->oU l=some I->pQ h vx vy va vM V W vO I->Gr h0 h/\D28 l (.tuple #[.agg ⟨plC I vx vy va vM V W vO⟩,.int .i64 0]) h:=fun g e p=>by unfold D28;rw [e];exact⟨g,_,_,_,_,_,_,_,rfl,p⟩
 have X:=S;by_cases ai:l=[]
 . subst ai;have zc:((0:Nat):Int)=0:=rfl;simp only [BZ,sl.sl.lenq,zc,seval];refine au (stA S (i:=0) t43.2.1) ?_;clear S;rintro h ⟨S,j⟩;simp only [LC,ae,lay,Xa,Xb,seval]at S;simp only [BZ,ab];refine(bF (by decide) (by simp only [az,ah,cC,seval];exact bz t43.1 t43.2.1 (S.lds (b:=F) (o:=0) (n:=9) m0 (lbt rfl)))).2 ((dk (by decide)).2 (bV.2 ?_));exact no S.gr rfl
 obtain⟨⟨k1,b⟩,Q,rfl⟩: ∃x Q,l=x::Q:=by cases l with|nil=>exact absurd rfl ai|cons x Q=>exact⟨x,Q,rfl⟩
 have ak: ¬(((Q.length+1:Nat):Int)=0):=by omega
 obtain⟨c,o,ad,Y⟩:=sl.sl.ix (kd:=.i64) ck (i:=0) (X7 _);rw [XT]at Y;have H:_=some [Value.int .i64 (k1:Int)]:=dz Y (i:=0) (m:=1) (by decide);have af:_=some [sv b]:=dz Y (i:=1) (m:=1) (by decide);rw [Yq]at H;have B:iC (some 2) vl (.int .i64 0)=_:=ad;by_cases a0:(k1:Int)=1;rotate_left
 . simp only [BZ,sl.sl.lenq,ak,B,H,a0,seval];refine au (stA S (i:=0) t43.2.1) ?_;clear S;rintro h ⟨S,j⟩;simp only [LC,ae,lay,Xa,Xb,seval]at S;simp only [BZ,ab];refine(bF (by decide) (by simp only [az,ah,cC,seval];exact bz t43.1 t43.2.1 (S.lds (b:=F) (o:=0) (n:=9) m0 (lbt rfl)))).2 ((dk (by decide)).2 (bV.2 ?_));exact no S.gr (decI_no fun⟨b',r,e⟩=>a0 (by cases e;rfl))
 obtain rfl:k1=1:=by omega
 have S0:=Si S.ok;clear S;have S:=S0;clear S0;have b1:=lb _ (X2 ..);simp only []at b1;simp only [BZ,XB,sl.sl.lenq,ak,B,H,seval];refine ag ay S ?_;clear S;intro h b6 S br;simp only [BZ,B,S.gr.load af,seval];have mh:=S.gr.n;have k6:=S.key_lt (b:=b6) (by simp [keys]);have L:=X.key_lt (b:=F) (by simp [keys]);refine step_ret (Fd S.ok (s:=b) (by omega)) ?_;rintro _ h2 ⟨g,n,vx,vy,va,t,rfl,⟨f1,f2,f3⟩,R,hg,hb⟩;obtain⟨m,hm⟩: ∃m,m=h.n:=⟨_,rfl⟩;have a1:=g.n;rw [<-hm]at hb k6 mh a1;clear hm;have N:F<m:=by omega
 have Z:=S.call g;have hm:St NoM h2 h2 [] []:=St.init Z.ok;clear S;have S:=hm;clear hm;simp only [BZ,seval];refine ag ay S ?_;clear S;intro h b7 S a2;simp only [BZ,seval];refine au (stA S (i:=0) t37.2.1 (by simp only [ae,XE,XH,f1.2.1,f2.2.1,f3.2.1,Xh];rfl)) ?_;clear S;rintro h ⟨S,j⟩;simp only [LC,ae,lay,Xa,Xb,seval]at S;have g7:=S.gr;have kb: ∀x∈keys [(b6,Ob.row [Value.int .i64 0,Value.slice none 0 0,Value.slice none 0 0,Value.slice none 0 0,Value.slice none 0 0,Value.slice none 0 0,Value.slice none 0 0,Value.slice none 0 0,Value.string ⟨#[]⟩] 1)] [],x<h2.n:=fun x hx=>Z.key_lt hx;have n7:b7∉keys [(b6,Ob.row [Value.int .i64 0,Value.slice none 0 0,Value.slice none 0 0,Value.slice none 0 0,Value.slice none 0 0,Value.slice none 0 0,Value.slice none 0 0,Value.slice none 0 0,Value.string ⟨#[]⟩] 1)] []:=fun hx=>absurd (kb _ hx) (by omega);replace S:=(Z.call g7).push (.inl (Xu Z.gr.n a2)) (o:=.row _ 1) (S.row m0) n7;clear Z j kb n7;simp only [BZ,Xg,Xn,Xj,S.lds (b:=b7) (o:=0) (n:=4) m0 (lbt rfl),seval];refine au (stA S (i:=1) t37.2.1 (by simp only [ae,XE,XH,f1.2.1,f2.2.1,f3.2.1,Xh];rfl)) ?_;clear S;rintro h' ⟨S,j⟩;simp only [LC,ae,lay,Xa,Xb,seval]at S;obtain⟨v1,c1,s1,n1⟩:=sl.from (kd:=.i64) t33.1 t50.2.1 ck (n:=1) (XI (Xd _))
 rw [X8,Xj]at s1;have bu:Fl v1:=s1.sl.fl;replace c1:cZ zB 33 vl (some (.int .i64 1)) none none=some v1:=c1;clear ad B Y H af ak ai;have e12: ¬((1:Int)=2):=by decide
 have a8: ¬((0:Int)=2):=by decide
 have zc:((0:Nat):Int)=0:=rfl;have e32: ¬((3:Int)=2):=by decide
 have ba:(0:Int)<1:=by decide
 have a5:(0:Int)<2:=by decide
 have bb: ∀{e:TypeId} {h:Hp},oX (some (.slice e)) h (.slice none 0 0)=some (.val (.int .i64 ((0:Nat):Int)),h):=rfl;have km:m<=h'.n:=Xu a1 (Xu g7.n j.n);have al:=fun b' (e:b'=b6)=>show b'<m by cases e;exact k6
 have G2:=fun(e:t=true)=>GraV.mo (GraV.mo (M:=NoM) (⟨(hg e).2,hb⟩:GraV h2 m vx vy va (dh b)) g7.fr (fun _ h=>h.elim)) j al;have bv:=j;clear j g7;refine run_joinN (n:=115) (d:=[]) (rc:=none) (fun ρ h=>ρ 2=ptrTo F/\((ρ 8=.bool false/\oU ((1,b)::Q)=none/\Gr h1 h)\/((jM b/\gG (dh b))/\n=(dh b).nodes/\ ∃T l2 v4 vM V W,decT (dh b).nodes Q=some (T,l2)/\
  St NoM h1 h [(b7,.row [.int .i64 n,vx,vy,va] 1),(b6,.row [.int .i64 n,vx,vy,va,vM,V,W,.slice none 0 0,.string ⟨#[]⟩] 1)] []/\m<=h.n/\GraV h m vx vy va (dh b)/\nI h m vM V W T/\SlK h1 2 encS v4 l2/\ρ 4=v4/\ρ 6=ptrTo b6/\ρ 7=ptrTo b7/\ρ 8=.bool true))) ?_ ?_
 . cases t with
   | false=>
     simp only [BZ,XC,XG,c1,seval];exact iK ⟨by simp [ao,ah],.inl ⟨by simp [ao],Ct fun h=>(by have:=R.2 h;cases this),S.gr⟩⟩
   |true=>
   have w:=R.1 rfl;have hn:=(hg rfl).1;have G:=G2 rfl;clear hg R G2;have bc:=w.2.n1;have an:=(pE w.1 (by omega)).n2;have bd: ∀x∈Q,x.2.length<=s.length:=fun x hx=>(by have:=lb x (.tail _ hx);omega);cases Q with
   | nil=>simp only [BZ,XB,XC,XG,c1,oQ s1 (n:=0) rfl,zc,seval];exact iK ⟨by simp [ao,ah],.inr ⟨w,hn,none,[],v1,_,_,_,rfl,S,km,G,nI.none,s1,by simp [ao,ah]⟩⟩| cons x r=>
     obtain⟨L,c⟩:=x;obtain⟨q0,o0,aa,D⟩:=(s1.gr S.gr).sl.ix (kd:=.i64) ck (i:=0) (X7 _);rw [XT]at D;have k:_=some [Value.int .i64 (L:Int)]:=dz D (i:=0) (m:=1) (by decide);rw [Yq]at k;have J:_=some [sv c]:=dz D (i:=1) (m:=1) (by decide);have u:iC (some 2) v1 (.int .i64 0)=_:=aa;have zr:(0:Int)<((r.length+1:Nat):Int):=(by omega);by_cases a6:L=2
     . subst a6;obtain⟨v2,c2,s2,n2⟩:=s1.from (kd:=.i64) t33.1 t50.2.1 ck (n:=1) (XI (Xd _))
       rw [X8,Xj]at s2;have bw:Fl v2:=s2.sl.fl;replace c2:cZ zB 33 v1 (some (.int .i64 1)) none none=some v2:=c2;have be:=bd _ (X2 ..);simp only [BZ,XB,XC,XG,c1,oQ s1 (n:=r.length+1) rfl,zr,u,k,seval];refine av (aB rfl) (q:=0) (ps:=[]) (by kernel_rfl) ?_;simp only [BZ,cls,u,J,S.ld (b:=b7) (o:=0) m0 rfl,seval];have mk:=EZ S.ok (s:=c) bc an (by simp only []at be;omega);rw [<-hn]at mk;refine cF mk ?_;rintro _ h ⟨g,vM,V,W,t,rfl,⟨fM,fT,fF⟩,R,hT⟩;replace S:=S.call g;replace G:=G.mo (M:=NoM) g.fr (fun _ h=>h.elim);simp only [BZ,cls,seval];refine dM (S.store (i:=1) rfl t41.2.1 (by intro x e;cases e) rfl (by simp only [ae,XE,XH,fM.2.1,fT.2.1,fF.2.1,Xh]) (lbt rfl) ono) ?_;clear S;rintro h3 ⟨S,j⟩;simp only [LC,ae,lay,Xa,Xb,seval]at S;simp only [BZ,cls,XC,XG,c2,seval];cases t with
       |false=>exact iK ⟨by simp [ao,ah],.inl ⟨by simp [ao],by rw [decI_t w];unfold decT;simp only [];rw [if_neg (fun h=>by have:=R.2 h;cases this)],S.gr⟩⟩
       | true=>
         exact iK ⟨by simp [ao,ah],.inr ⟨w,hn,some (dN (dh b).nodes c),r,v2,vM,V,W,by unfold decT;simp only [];rw [if_pos (R.1 rfl)],S,Xu km (Xu g.n j.n),G.mo j al,nI.mo (T:=some (dN (dh b).nodes c)) ⟨(hT rfl).1,fun c hc=>Xu km ((hT rfl).2.1 c hc),(hT rfl).2.2.1.le km,(hT rfl).2.2.2.le km⟩ j al,s2,by simp [ao,ah]⟩⟩
     . have a7: ¬((L:Nat):Int)=2:=(by omega);simp only [BZ,XC,XG,c1,oQ s1 (n:=r.length+1) rfl,zr,u,k,a7,seval];exact iK ⟨by simp [ao,ah],.inr ⟨w,hn,none,(L,c)::r,v1,_,_,_,decT_no (fun⟨_,_,e⟩=>a6 (by cases e;rfl)),S,km,G,nI.none,s1,by simp [ao,ah]⟩⟩
 clear S G2 km hg R;rintro ρ h' ⟨C,⟨r8,v,gJ⟩|⟨w,rfl,T0,l2,v4,vM,V,W,dT,S,km,G,T,U,r4,r6,r7,r8⟩⟩
 . have S:=Si gJ.ok;replace gJ:=gJ;simp only [BZ,C,r8,seval];replace S:=X.call gJ;refine au (stA S (i:=0) t43.2.1) ?_;clear S;rintro h ⟨S,j⟩;simp only [LC,ae,lay,Xa,Xb,seval]at S;simp only [BZ,ab];refine(bF (by decide) (by simp only [az,C,ah,seval];exact bz t43.1 t43.2.1 (S.lds (b:=F) (o:=0) (n:=9) m0 (lbt rfl)))).2 ((dk (by decide)).2 (bV.2 ?_));exact no S.gr v
 have v:=decI_t (l:=Q) w;rw [dT]at v;simp only []at v;have an:=(pE w.1 (by omega)).n2;have bf:=(pE w.1 (by omega)).many;have fM:=T.mm.fl;have fT:Fl V:=by obtain⟨_,a,_⟩:=T.tt;exact a.fl
 have fF:Fl W:=by obtain⟨_,a,_⟩:=T.ff;exact a.fl
 have bx:=U.sl.fl;generalize dh b=γ at*
 cases l2 with
 | nil=>
   have P:jB γ []=some none:=rfl;simp only [P]at v;have O:OfV h' m (.slice none 0 0) []:=⟨.inl ⟨rfl,rfl⟩,fun c h=>h.elim⟩;simp only [BZ,r4,r6,r8,oQ U (n:=0) rfl,zc,a8,seval];have hl:=S.lds (b:=b6) (o:=0) (n:=9) m1 (lbt rfl);have Z:=X.call S.gr;simp only [BZ,C,Xg,Xn,Xj,hl,seval];refine au (Z.store (i:=0) rfl t43.2.1 (by intro x e;cases e) rfl (by simp only [ae,XE,XH,f1.2.1,f2.2.1,f3.2.1,fM.2.1,fT.2.1,fF.2.1,Xh];rfl) (lbt rfl) ono) ?_;clear S;rintro h' ⟨S,j⟩;simp only [LC,ae,lay,Xa,Xb,seval]at S;simp only [BZ,ab];refine(bF (by decide) (by simp only [az,C,ah,seval];exact bz t43.1 t43.2.1 (S.lds (b:=F) (o:=0) (n:=9) m0 (lbt rfl)))).2 ((dk (by decide)).2 (bV.2 ?_));exact aL S.gr (I:=⟨γ,T0,none⟩) v (pl_of (G.mo j (fun b e=>by cases e;exact N)) (T.mo j (fun b e=>by cases e;exact N)) (O.mo j (fun b e=>by cases e;exact N)))
 | cons x r=>
   obtain⟨L,c⟩:=x;obtain⟨q0,o0,aa,D⟩:=(U.gr S.gr).sl.ix (kd:=.i64) ck (i:=0) (X7 _);rw [XT]at D;have k:_=some [Value.int .i64 (L:Int)]:=dz D (i:=0) (m:=1) (by decide);rw [Yq]at k;have J:_=some [sv c]:=dz D (i:=1) (m:=1) (by decide);have u:iC (some 2) v4 (.int .i64 0)=_:=aa;cases r with
   | nil=>
     have P:jB γ [(L,c)]=none:=xf (fun⟨_,_,_,e⟩=>by cases e) (fun e=>by cases e);rw [P]at v;simp only []at v;simp only [BZ,XB,C,r4,r8,oQ U (n:=1) rfl,e12,ba,seval];replace S:=X.call S.gr;refine au (stA S (i:=0) t43.2.1) ?_;clear S;rintro h ⟨S,j⟩;simp only [LC,ae,lay,Xa,Xb,seval]at S;simp only [BZ,ab];refine(bF (by decide) (by simp only [az,C,ah,seval];exact bz t43.1 t43.2.1 (S.lds (b:=F) (o:=0) (n:=9) m0 (lbt rfl)))).2 ((dk (by decide)).2 (bV.2 ?_));exact no S.gr (v)
   | cons y' C=>
     obtain⟨k3,f⟩:=y';obtain⟨q1,o1,ac,E⟩:=(U.gr S.gr).sl.ix (kd:=.i64) ck (i:=1) (XI (XI (Xd _)));rw [Yu,XT]at E;have y:_=some [Value.int .i64 (k3:Int)]:=dz E (i:=0) (m:=1) (by decide);rw [Yq]at y;have K:_=some [sv f]:=dz E (i:=1) (m:=1) (by decide);have A:iC (some 2) v4 (.int .i64 1)=_:=ac;cases C with
     | cons z r3=>
       obtain⟨n3,bh,g3⟩: ∃n,((L,c)::(k3,f)::z::r3:List Sec).length=n/\3<=n:=⟨_,rfl,by simp⟩;have bi: ¬(n3:Int)=2:=(by omega);have bk:(0:Int)<(n3:Int):=(by omega);have P:jB γ ((L,c)::(k3,f)::z::r3)=none:=decC_3;rw [P]at v;simp only []at v;simp only [BZ,C,r4,r8,oQ U bh,bi,bk,seval];replace S:=X.call S.gr;refine au (stA S (i:=0) t43.2.1) ?_;clear S;rintro h ⟨S,j⟩;simp only [LC,ae,lay,Xa,Xb,seval]at S;simp only [BZ,ab];refine(bF (by decide) (by simp only [az,C,ah,seval];exact bz t43.1 t43.2.1 (S.lds (b:=F) (o:=0) (n:=9) m0 (lbt rfl)))).2 ((dk (by decide)).2 (bV.2 ?_));exact no S.gr (v)
     | nil =>
       by_cases a3:L=3
       . subst a3;by_cases a4:k3=4
         . subst a4;simp only [BZ,XB,r4,r8,u,k,A,y,oQ U (n:=2) rfl,seval];refine av (aB rfl) (q:=0) (ps:=[]) (by kernel_rfl) ?_;simp only [BZ,cls,r4,r7,u,J,A,K,Xg,Xn,Xj,S.lds (b:=b7) (o:=0) (n:=4) m0 (lbt rfl),seval];refine cF (EN S.ok G.g (s:=c) (f:=f) an bf) ?_;rintro _ h ⟨g,vO,t,rfl,fO,R,hO,bO⟩;clear aa u D k J ac A E y K;replace S:=S.call g;replace G:=G.mo (M:=NoM) g.fr (fun _ h=>h.elim);replace T:=T.mo (M:=NoM) g.fr (fun _ h=>h.elim);simp only [BZ,cls,r6,seval];refine dM (aw S (i:=1) rfl t38.2.2.1 fO (Xe (lbt rfl)) ono) ?_;clear S;rintro h3 ⟨S,j⟩;simp only [LC,ae,lay,Xa,Xb,seval]at S;replace G:=G.mo j (fun b e=>by cases e;exact k6);replace T:=T.mo j (fun b e=>by cases e;exact k6);have bl:t=true->OfV h3 m vO (eJ c):=fun e=>OfV.mo ⟨hO e,fun c hc=>Xu km (bO c hc)⟩ j (fun b e=>by cases e;exact k6);clear hO j;obtain⟨q1,o1,ac,E⟩:=(U.gr S.gr).sl.ix (kd:=.i64) ck (i:=1) (XI (XI (Xd _)));rw [Yu,XT]at E;have y:_=some [Value.int .i64 ((4:Nat):Int)]:=dz E (i:=0) (m:=1) (by decide);rw [Yq]at y;have K:_=some [sv f]:=dz E (i:=1) (m:=1) (by decide);have A:iC (some 2) v4 (.int .i64 1)=_:=ac;have fs:=gP (l:=f);simp only [BZ,cls,r4,r6,A,K,seval];refine au (aw S (i:=1) rfl Tryz.t9.2.2.1 fs (Xe (lbt rfl)) ono) ?_;clear S;rintro h4 ⟨S,j⟩;simp only [LC,ae,lay,Xa,Xb,seval]at S;replace G:=G.mo j (fun b e=>by cases e;exact k6);replace T:=T.mo j (fun b e=>by cases e;exact k6);cases t with
           | false=>
             have P:jB γ [(3,c),(4,f)]=none:=decC_bad fun h=>(by have:=R.2 h;cases this);rw [P]at v;simp only []at v;simp only [BZ,C,r8,seval];replace S:=X.call S.gr;refine au (stA S (i:=0) t43.2.1) ?_;clear S;rintro h ⟨S,j⟩;simp only [LC,ae,lay,Xa,Xb,seval]at S;simp only [BZ,ab];refine(bF (by decide) (by simp only [az,C,ah,seval];exact bz t43.1 t43.2.1 (S.lds (b:=F) (o:=0) (n:=9) m0 (lbt rfl)))).2 ((dk (by decide)).2 (bV.2 ?_));exact no S.gr (v)
           | true=>
             have P:jB γ [(3,c),(4,f)]=some (some (eJ c,f)):=decC_yes (R.1 rfl);rw [P]at v;simp only []at v;have O:=(bl rfl).mo j (fun b e=>by cases e;exact k6);simp only [BZ,r4,r6,r8,bb,zc,seval];have hl:=S.lds (b:=b6) (o:=0) (n:=9) m1 (lbt rfl);have Z:=X.call S.gr;simp only [BZ,C,Xg,Xn,Xj,hl,seval];refine au (Z.store (i:=0) rfl t43.2.1 (by intro x e;cases e) rfl (by simp only [ae,XE,XH,f1.2.1,f2.2.1,f3.2.1,fM.2.1,fT.2.1,fF.2.1,fO.2.1,(gP (l:=f)).2.1,Xh];rfl) (lbt rfl) ono) ?_;clear S;rintro h' ⟨S,j⟩;simp only [LC,ae,lay,Xa,Xb,seval]at S;simp only [BZ,ab];refine(bF (by decide) (by simp only [az,C,ah,seval];exact bz t43.1 t43.2.1 (S.lds (b:=F) (o:=0) (n:=9) m0 (lbt rfl)))).2 ((dk (by decide)).2 (bV.2 ?_));exact aL S.gr (I:=⟨γ,T0,(some (eJ c,f))⟩) v (pl_of (G.mo j (fun b e=>by cases e;exact N)) (T.mo j (fun b e=>by cases e;exact N)) (O.mo j (fun b e=>by cases e;exact N)))
         . have bm: ¬((k3:Nat):Int)=4:=(by omega);have P:jB γ [(3,c),(k3,f)]=none:=xf (fun⟨_,_,_,e⟩=>a4 (by cases e;rfl)) (fun e=>by cases e);rw [P]at v;simp only []at v;simp only [BZ,XB,C,r4,r8,oQ U (n:=2) rfl,a5,u,k,A,y,bm,seval];replace S:=X.call S.gr;refine au (stA S (i:=0) t43.2.1) ?_;clear S;rintro h ⟨S,j⟩;simp only [LC,ae,lay,Xa,Xb,seval]at S;simp only [BZ,ab];refine(bF (by decide) (by simp only [az,C,ah,seval];exact bz t43.1 t43.2.1 (S.lds (b:=F) (o:=0) (n:=9) m0 (lbt rfl)))).2 ((dk (by decide)).2 (bV.2 ?_));exact no S.gr (v)
       . have bn: ¬((L:Nat):Int)=3:=(by omega);have P:jB γ [(L,c),(k3,f)]=none:=xf (fun⟨_,_,_,e⟩=>a3 (by cases e;rfl)) (fun e=>by cases e);rw [P]at v;simp only []at v;simp only [BZ,XB,C,r4,r8,oQ U (n:=2) rfl,a5,u,k,bn,seval];replace S:=X.call S.gr;refine au (stA S (i:=0) t43.2.1) ?_;clear S;rintro h ⟨S,j⟩;simp only [LC,ae,lay,Xa,Xb,seval]at S;simp only [BZ,ab];refine(bF (by decide) (by simp only [az,C,ah,seval];exact bz t43.1 t43.2.1 (S.lds (b:=F) (o:=0) (n:=9) m0 (lbt rfl)))).2 ((dk (by decide)).2 (bV.2 ?_));exact no S.gr (v)
theorem nI.le{h:Hp}{m d:Nat}{e f g:Value}{T:Option Tab}(a:nI h m e f g T)(b:d<=m):nI h d e f g T:=⟨a.mm,fun c i=>Xu b (a.b c i),a.tt.le b,a.ff.le b⟩
theorem OfV.le{l:List Int}(a:OfV h m vO l)(d:b<=m):OfV h b vO l:=⟨a.s,fun c e=>Xu d (a.b c e)⟩
theorem run_join1{Q:dW}{k:List Fr}(J:(Nat->Value)->Hp->Prop){a c:Code}{l:Loc}(b:Run E (lim E) cx (JQ n d rc J Q) [.code a] .normal l h)(e: ∀ρ h,J ρ h->Run E (lim E) cx Q (.code c::k) .normal (LL n ρ d rc) h):Run E (lim E) cx Q (.ops os []:: .code (.seq a c)::k) .normal l h:=tO.2 (uf.2 (sY b e))
theorem zm{K:Hp}(ok:OZ K)(i:me K b I):Ret zB 9 [ptrTo b] K fun r h'=>Gr K h'/\ ∃N P Q H w z vO,r=.agg ⟨plC I N P Q H w z vO⟩/\pQ h' N P Q H w z vO I:=by
 have S:=Si ok;obtain⟨pn,pt,pc,pf,R,hI⟩:=i;obtain⟨⟨nb,hN⟩,A,J,U⟩:=hI;obtain⟨bn,rfl⟩:=hN.ptr;have l0:=R.load1 (o:=0) rfl;have l1:=R.load1 (o:=1) rfl;have l2:=R.load1 (o:=2) rfl;have l3:=R.load1 (o:=3) rfl;obtain⟨⟨W,gX,gY,gA⟩,IT,IC⟩:=I;simp only []at J U hN A;refine erA (n:=52) (rs:=[.cell 2 43]) Tryz.e9 ?_;simp only [BZ];refine ag ay S ?_;clear S;intro h b2 S a4;simp only [BZ,S.gr.load l0,seval];obtain⟨m,hm⟩: ∃m,m=h.n:=⟨_,rfl⟩;have s:=S.key_lt (b:=b2) (by simp [keys]);refine step_ret (AZ S.ok A (hN.gr S.gr)) ?_;rintro _ h1 ⟨g,N,P,Q,rfl,X,ba,_,_⟩;rw [<-hm]at s ba;have f1:=X.X.fl;have f2:=X.Y.fl;have f3:=X.A.fl;have ak:=g.n;rw [<-hm]at ak;clear hm;replace S:=S.call g;have S1:=S;clear S;have S:=Si S1.ok;have v:=S1.gr;simp only [BZ,gc,seval];refine ag ay S ?_;clear S;intro h u S a5;have D:m<=u+1:=by omega
 simp only [BZ,seval];refine au (stA S (i:=0) t43.2.1 (by simp only [ae,XE,XH,f1.2.1,f2.2.1,f3.2.1,Xh];rfl)) ?_;clear S;rintro L ⟨S,f⟩;simp only [LC,ae,lay,Xa,Xb,seval]at S;clear f;refine run_join1 (n:=52) (d:=[]) (rc:=none) (fun ρ h=> ∃H w z,St NoM h1 h [(u,.row [.int .i64 (W:Nat),N,P,Q,H,w,z,.slice none 0 0,.string ⟨#[]⟩] 1)] []/\nI h (u+1) H w z IT/\ρ 0=ptrTo b/\ρ 2=ptrTo b2/\ρ 3=ptrTo u) ?_ ?_
 . cases IT with
   |none=>
   have J:pt=.pointer none:=J;subst J;have Y:=fun(t:TypeId) (p q:Operand)=>iw (E:=zB) (x:=p) (y:=q) t61.2.2.2.2.1 (.inl ⟨rfl,rfl⟩);simp only [BZ,(v.trans S.gr).load l1,seval];exact iK ⟨_,_,_,S,nI.none,by simp [ao,cC,ah]⟩
   |some j=>
   have J:TabM K pt W j:=J;obtain⟨bt,rfl⟩:=J.ptr;have Y:=fun(t:TypeId) (p q:Operand)=>iw (E:=zB) (x:=p) (y:=q) t61.2.2.2.2.1 (.inr ⟨⟨bt,rfl⟩,rfl⟩);obtain⟨⟨mt,hA⟩,Z⟩:=J;have tn:=Z.l2;have n2:=A.n2;have e1:=Z.to;have e2:=Z.fr;have lR: ∀i,i<j.l.length->(aW j.to i).length<1000000:=fun i hi=>(by have h1:=(Z.rTo _ (Xs (show i<j.to.length by omega))).1;simp only []at n2;rw [show aW j.to i=j.to[i]'(by omega) by simp [aW,zO,show i<j.to.length by omega]];omega);have lQ: ∀i,i<j.l.length->(aW j.fr i).length<1000000:=fun i hi=>(by have h1:=(Z.rFr _ (Xs (show i<j.fr.length by omega))).1;simp only []at n2;rw [show aW j.fr i=j.fr[i]'(by omega) by simp [aW,zO,show i<j.fr.length by omega]];omega);have V:=S.key_lt (b:=u) (by simp [keys]);simp only [BZ,(v.trans S.gr).load l1,seval];refine step_ret (uA S.ok (hA.gr (v.trans S.gr)) (by omega) lR lQ) ?_;rintro _ h2 ⟨g,w,z,k,rfl,LT,LF,aa,al⟩;replace S:=S.call g;have an:cS h2 (u+1) w j.to.length (aW j.to):=(by rw [e1];exact LT.ll.le V);have aL:cS h2 (u+1) z j.fr.length (aW j.fr):=(by rw [e2];exact LF.ll.le (Xu V aa));obtain⟨a1,a2,a3,rfl⟩:=LT.form;obtain⟨c1,c2,c3,rfl⟩:=LF.form;have fT:Fl (.slice a1 a2 a3):=bW;have fF:Fl (.slice c1 c2 c3):=bW;clear LT LF aa al;simp only [BZ,(v.trans S.gr).load l1,seval];have V:=S.key_lt (b:=u) (by simp [keys]);refine step_ret (qt S.ok (hA.gr (v.trans S.gr)) (by omega)) ?_;rintro H h3 ⟨g,sM,bM⟩;replace S:=S.call g;have fM:=sM.fl;have T:nI h3 (u+1) H (.slice a1 a2 a3) (.slice c1 c2 c3) (some j):=⟨sM,fun c L=>Xu V (bM c L),an.mo (M:=NoM) g.fr (fun _ h=>h.elim),aL.mo (M:=NoM) g.fr (fun _ h=>h.elim)⟩;simp only [BZ,fM,fT,fF,seval];refine au (S.store (i:=0) rfl t41.2.1 (by intro x e;cases e) rfl (by simp only [ae,XE,XH,fM.2.1,fT.2.1,fF.2.1,Xh]) (lbt rfl) ono) ?_;clear S;rintro L ⟨S,f⟩;simp only [LC,ae,lay,Xa,Xb,seval]at S;replace T:=T.mo f (fun b e=>by cases e;exact XN _);clear f;simp only [BZ];exact iK ⟨_,_,_,S,T,by simp [ao,cC,ah]⟩
 clear S;rintro ρ L ⟨H,w,z,S,T,r0,r2,r3⟩;have fM:=T.mm.fl;have fT:Fl w:=by obtain⟨_,a,_⟩:=T.tt;exact a.fl
 have fF:Fl z:=by obtain⟨_,a,_⟩:=T.ff;exact a.fl
 cases IC with
 | none=>
   obtain⟨rfl,rfl⟩:pc=.pointer none/\pf=.pointer none:=U;have ac:=fun(t:TypeId) (p q:Operand)=>iw (E:=zB) (x:=p) (y:=q) t62.2.2.2.2.1 (.inl ⟨rfl,rfl⟩);have O:OfV L (u+1) (.slice none 0 0) []:=⟨.inl ⟨rfl,rfl⟩,fun c h=>h.elim⟩;simp only [BZ,r0,r3,(v.trans S.gr).load l2,seval];have hl:=S.lds (b:=u) (o:=0) (n:=9) m0 (lbt rfl);simp only [BZ,r2,Xg,Xn,Xj,hl,seval];have G:GraV _ m N P Q ⟨W,gX,gY,gA⟩:=⟨X.gr S.gr,ba⟩;have S2:=S1.call S.gr;refine au (S2.store (i:=0) rfl t43.2.1 (by intro x e;cases e) rfl (by simp only [ae,XE,XH,f1.2.1,f2.2.1,f3.2.1,fM.2.1,fT.2.1,fF.2.1,Xh];rfl) (lbt rfl) ono) ?_;clear S;rintro h' ⟨S,f⟩;simp only [LC,ae,lay,Xa,Xb,seval]at S;simp only [BZ,ab];refine(bF (by decide) (by simp only [az,r2,ah,seval];exact bz t43.1 t43.2.1 (S.lds (b:=b2) (o:=0) (n:=9) m0 (lbt rfl)))).2 (bV.2 ?_);exact⟨S.gr,_,_,_,_,_,_,_,rfl,pl_of (G.mo f (fun b e=>by cases e;exact s)) ((T.le D).mo f (fun b e=>by cases e;exact s)) ((O.le D).mo f (fun b e=>by cases e;exact s))⟩
 | some C=>
   obtain⟨mC,F⟩:=C;have U:lU K pc pf ⟨W,gX,gY,gA⟩ mC F:=U;obtain⟨bc,bf,rfl,rfl⟩:=U.ptr;have ac:=fun(t:TypeId) (p q:Operand)=>iw (E:=zB) (x:=p) (y:=q) t62.2.2.2.2.1 (.inr ⟨⟨bc,rfl⟩,rfl⟩);obtain⟨kc,fp,fb,ad,af,B,ca,ai,a0,_,bm,rfl,_,_,_⟩:=U;cases a0;have n2:=A.n2;simp only []at n2 ai;simp only [BZ,r0,(v.trans S.gr).load l2,seval];refine step_ret (Dk S.ok (ca.gr (v.trans S.gr)) (by omega)) ?_;rintro vO h3 ⟨g,sO,bO⟩;have fO:=sO.fl;have V:=S.key_lt (b:=u) (by simp [keys]);have O:OfV h3 (u+1) vO mC:=⟨sO,fun c L=>Xu V (bO c L)⟩;replace S:=S.call g;replace T:=T.mo (M:=NoM) g.fr (fun _ h=>h.elim);simp only [BZ,r3,seval];refine au (aw S (i:=0) rfl t38.2.2.1 fO (Xe (lbt rfl)) ono) ?_;clear S;rintro h4 ⟨S,f⟩;simp only [LC,ae,lay,Xa,Xb,seval]at S;replace O:=O.mo f (fun b e=>by cases e;exact XN _);replace T:=T.mo f (fun b e=>by cases e;exact XN _);simp only [BZ,r0,(v.trans S.gr).load l3,seval];refine ar (vU S.ok (bm.gr (v.trans S.gr))) ?_;intro h5 g;replace S:=S.call g;replace O:=O.mo (M:=NoM) g.fr (fun _ h=>h.elim);replace T:=T.mo (M:=NoM) g.fr (fun _ h=>h.elim);have fs:=gP (l:=byB (ad*af) B);simp only [BZ,r3,seval];refine au (aw S (i:=0) rfl Tryz.t9.2.2.1 fs (Xe (lbt rfl)) ono) ?_;clear S;rintro h6 ⟨S,f⟩;simp only [LC,ae,lay,Xa,Xb,seval]at S;replace O:=O.mo f (fun b e=>by cases e;exact XN _);replace T:=T.mo f (fun b e=>by cases e;exact XN _);simp only [BZ,if_false,r3,seval];have hl:=S.lds (b:=u) (o:=0) (n:=9) m0 (lbt rfl);simp only [BZ,r2,Xg,Xn,Xj,hl,seval];have G:GraV _ m N P Q ⟨W,gX,gY,gA⟩:=⟨X.gr S.gr,ba⟩;have S2:=S1.call S.gr;refine au (S2.store (i:=0) rfl t43.2.1 (by intro x e;cases e) rfl (by simp only [ae,XE,XH,f1.2.1,f2.2.1,f3.2.1,fM.2.1,fT.2.1,fF.2.1,fO.2.1,fs.2.1,Xh];rfl) (lbt rfl) ono) ?_;clear S;rintro h' ⟨S,f⟩;simp only [LC,ae,lay,Xa,Xb,seval]at S;simp only [BZ,ab];refine(bF (by decide) (by simp only [az,r2,ah,seval];exact bz t43.1 t43.2.1 (S.lds (b:=b2) (o:=0) (n:=9) m0 (lbt rfl)))).2 (bV.2 ?_);exact⟨S.gr,_,_,_,_,_,_,_,rfl,pl_of (G.mo f (fun b e=>by cases e;exact s)) ((T.le D).mo f (fun b e=>by cases e;exact s)) ((O.le D).mo f (fun b e=>by cases e;exact s))⟩
theorem arc_neq(a:Arc)(p q:Operand):bQ zB .neq 81 p q (.agg ⟨cR a⟩) (.agg ⟨cR a⟩)=some (.bool false):=by
 have h:abEnv.eqok 81=true:=rfl;have b: ∀n:Int,iW n n=true:=fun n=>by rw [oG];simp
 have e:fo zB 40 81 (.agg ⟨cR a⟩) (.agg ⟨cR a⟩)=(match some (iW a.s a.s)with|some true=>(match some (iW a.t a.t)with|some true=>(match some (iW a.w a.w)with|some true=>some true|r=>r)|r=>r)|r=>r):=by rfl
 simp only [bQ,iq,h,cond_true,e,b,XC,Bool.not_true]
theorem CD{b:Hp}(k:OZ b){l:List Int}(f:aH b 1 (encI .i64) u l)(m:aH b 1 (encI .i64) v l)(r:l.length<1000000):cj zB 150 [u,v] b (.bool true):=by
 have S:=Si k;refine erA (n:=26) (rs:=[.tmp 4]) e150 ?_;simp only [BZ,f.lenq,m.lenq,seval];refine aD (fun(i:Nat) g h=>i<=l.length/\Gr b h/\g 0=u/\g 1=v/\g 5=.int .i64 i) (fun i=>l.length-i) ?_ 0 _ _ ?_
 . clear S;intro i p g h ⟨hi,S,r0,r1,r5⟩;have w:am .i64 ((i:Int)+1)=((i+1:Nat):Int):=(by rw [wrap64]<;>omega);by_cases hlt:i<l.length
   . obtain⟨c,o,d,j⟩:=(f.gr S).ix (kd:=.i64) (aE .i64) hlt;obtain⟨s,t,a,e⟩:=(m.gr S).ix (kd:=.i64) (aE .i64) hlt;simp only [BZ,r0,r5,f.lenq,aq,hlt,seval];refine av (aB rfl) (q:=0) (ps:=[]) (by kernel_rfl) ?_;simp only [BZ,cls,r0,r1,r5,d,j,a,e,encI,w,seval];exact p (i+1) _ _ (by omega) ⟨by omega,S,by simp [ao,r0,r1]⟩
   . simp only [BZ,ab,r0,r5,f.lenq,aq,hlt,seval];exact S
 . exact⟨Xd _,Gr.refl k,by simp [ao,ct,cP]⟩
theorem same06_ok{m:Hp}(E:OZ m){a:Gra}{t A:Value}(d:cL m t u v a)(j:cL m y z A a)(F:a.X.length<1000000)(G:a.Y.length<1000000)(I:a.arcs.length<1000000):cj zB 90 [gc a t u v,gc a y z A] m (.bool true):=by
 have S:=Si E;have J:=d.X.fl;have K:=d.Y.fl;have L:=d.A.fl;have M:=j.X.fl;have N:=j.Y.fl;have O:=j.A.fl;refine erA (n:=54) (rs:=[.tmp 4]) e90 ?_;simp only [BZ,gc,seval];refine ag (bK (by intro x e;cases e)) S ?_;clear S;intro h f S C;simp only [ae]at S;simp only [BZ,if_false,seval];refine ag (bK (by intro x e;cases e)) S ?_;clear S;intro h k S D;simp only [ae]at S;simp only [BZ,S.ld (b:=f) (o:=0) m1 rfl,S.ld (b:=f) (o:=1) m1 rfl,S.ld (b:=k) (o:=0) m0 rfl,S.ld (b:=k) (o:=1) m0 rfl,seval];refine ar (CD S.ok (d.X.gr S.gr) (j.X.gr S.gr) F) ?_;intro h g;replace S:=S.call g;simp only [BZ,S.ld (b:=f) (o:=2) m1 rfl,S.ld (b:=k) (o:=2) m0 rfl,seval];refine ar (CD S.ok (d.Y.gr S.gr) (j.Y.gr S.gr) G) ?_;intro h g;replace S:=S.call g;simp only [BZ,(d.A.gr S.gr).lenq,(j.A.gr S.gr).lenq,S.ld (b:=f) (o:=3) m1 rfl,S.ld (b:=k) (o:=3) m0 rfl,seval];refine aD (fun(i:Nat) s h=>i<=a.arcs.length/\St NoM m h [(k,.row [.int .i64 a.nodes,y,z,A] 1),(f,.row [.int .i64 a.nodes,t,u,v] 1)] []/\s 2=ptrTo f/\s 3=ptrTo k/\s 5=.int .i64 i) (fun i=>a.arcs.length-i) ?_ 0 _ _ ?_
 . clear S;intro i H s h ⟨hi,S,r2,r3,r5⟩;have w:am .i64 ((i:Int)+1)=((i+1:Nat):Int):=(by rw [wrap64]<;>omega);by_cases hlt:i<a.arcs.length
   . obtain⟨c,o,p,B⟩:=(d.A.gr S.gr).ix (kd:=.i64) dD hlt;obtain⟨P,Q,l,r⟩:=(j.A.gr S.gr).ix (kd:=.i64) dD hlt;simp only [BZ,r2,r5,(d.A.gr S.gr).lenq,aq,hlt,S.ld (b:=f) (o:=3) m1 rfl,seval];refine av (aB rfl) (q:=0) (ps:=[]) (by kernel_rfl) ?_;simp only [BZ,cls,r2,r3,r5,p,B,l,r,arc_neq,w,S.ld (b:=f) (o:=3) m1 rfl,S.ld (b:=k) (o:=3) m0 rfl,seval];exact H (i+1) _ _ (by omega) ⟨by omega,S,by simp [ao,r2,r3]⟩
   . simp only [BZ,ab,r2,r5,(d.A.gr S.gr).lenq,aq,hlt,S.ld (b:=f) (o:=3) m1 rfl,seval];exact S.gr
 . exact⟨Xd _,S,by simp [ao,ah]⟩
theorem A4{l:List (List Int)}(h: ∀r∈l,r.length<K)(b:0<K)(i:Nat):(aW l i).length<K:=by
 unfold aW;by_cases a:i<l.length
 . simp only [zO,XQ a,YM];exact h _ (Xs a)
 . simp only [zO,Yh (Nat.le_of_not_lt a),Option.getD_none];exact b
theorem pQ.fls{b c d f:Value}(p:pQ h b c d e f g vO I):Fl b/\Fl c/\Fl d/\Fl e/\Fl f/\Fl g/\Fl vO:=⟨p.g.X.fl,p.g.Y.fl,p.g.A.fl,p.M.fl,by obtain⟨_,a,_⟩:=p.T;exact a.fl,by obtain⟨_,a,_⟩:=p.F;exact a.fl,p.O.fl⟩
theorem Fv{s:Hp}(O:OZ s)(d:ImL I){w A B C D E G J:Value}(p:pQ s u v w y z A vO I)(q:pQ s B C D E G H J I):cj zB 32 [.agg ⟨plC I u v w y z A vO⟩,.agg ⟨plC I B C D E G H J⟩] s (.bool true):=by
 have S:=Si O;obtain⟨R,U,V,W,X,Y,Z⟩:=p.fls;obtain⟨q1,q2,q3,q4,q5,q6,q7⟩:=q.fls;have fs:=gP (l:=flP I);have n2:=d.g.n2;have lX:=d.g.lX;have lY:=d.g.lY;have m2:=d.g.many;have lM:(mg I).l.length<1000:=by
  unfold mg;cases f:I.T with
  |none=>simp|some T=>have:=(d.t T f).l2;simp;omega
 have K:(mg I).to.length<1000/\ ∀r∈(mg I).to,r.length<1000000:=by
  unfold mg;cases f:I.T with
  |none=>simp|some T=>have a:=(d.t T f).l2;have b:=(d.t T f).to;exact⟨by simp;omega,fun r t=>by have:=((d.t T f).rTo r t).1;omega⟩
 have L:(mg I).fr.length<1000/\ ∀r∈(mg I).fr,r.length<1000000:=by
  unfold mg;cases f:I.T with
  |none=>simp|some T=>have a:=(d.t T f).l2;have b:=(d.t T f).fr;exact⟨by simp;omega,fun r t=>by have:=((d.t T f).rFr r t).1;omega⟩
 have P:(ofP I).length<1000000:=by
  unfold ofP;cases Q:I.C with
  |none=>simp|some c=>obtain⟨m,F⟩:=c;have:=(d.c m F Q).1;simp;omega
 refine erA (n:=51) (rs:=[.tmp 4]) Tryz.e32 ?_;simp only [BZ,plC,seval];refine ag (bK (by intro x e;cases e)) S ?_;clear S;intro h j S M;simp only [ae]at S;simp only [BZ,if_false,seval];refine ag (bK (by intro x e;cases e)) S ?_;clear S;intro h k S N;simp only [ae]at S;simp only [BZ,Xg,Xn,Xj,S.lds (b:=j) (o:=0) (n:=4) m1 (lbt rfl),S.lds (b:=k) (o:=0) (n:=4) m0 (lbt rfl),seval];refine ar (same06_ok S.ok (p.g.gr S.gr) (q.g.gr S.gr) (by omega) (by omega) (by omega)) ?_;intro h g;replace S:=S.call g;simp only [BZ,S.ld (b:=j) (o:=4) m1 rfl,S.ld (b:=k) (o:=4) m0 rfl,seval];refine ar (zJ S.ok (p.M.gr S.gr) (q.M.gr S.gr) (by omega)) ?_;intro h g;replace S:=S.call g;simp only [BZ,S.ld (b:=j) (o:=5) m1 rfl,S.ld (b:=k) (o:=5) m0 rfl,seval];refine ar (zq S.ok (p.T.gr S.gr) (q.T.gr S.gr) K.1 (fun i _=>A4 K.2 (by decide) i)) ?_;intro h g;replace S:=S.call g;simp only [BZ,S.ld (b:=j) (o:=6) m1 rfl,S.ld (b:=k) (o:=6) m0 rfl,seval];refine ar (zq S.ok (p.F.gr S.gr) (q.F.gr S.gr) L.1 (fun i _=>A4 L.2 (by decide) i)) ?_;intro h g;replace S:=S.call g;simp only [BZ,S.ld (b:=j) (o:=7) m1 rfl,S.ld (b:=k) (o:=7) m0 rfl,seval];refine ar (zJ S.ok (p.O.gr S.gr) (q.O.gr S.gr) P) ?_;intro h g;replace S:=S.call g;simp only [BZ,ab,Du,S.ld (b:=j) (o:=8) m1 rfl,S.ld (b:=k) (o:=8) m0 rfl,seval];exact S.gr
theorem mD{H:Hp}(ok:OZ H)(f:s.length<=4839):cj zB 10 [sv s] H (.bool true):=by
 have S:=Si ok;refine erA (n:=39) (rs:=[.tmp 2]) e10 ?_;simp only [BZ,gP (l:=s),seval];refine step_ret (Cu S.ok f) ?_;rintro r h ⟨g,q⟩;replace S:=S.call g;have S1:=S;have M:(∃e:Int,r=.tuple #[.pointer none,.int .i64 e]/\e≠0/\ ∀c,Gr h c->Ret zB 31 [sv s] c fun r d=>Gr c d/\r=.tuple #[.agg ⟨nil9⟩,.int .i64 e])\/
  (∃b I,r=.tuple #[ptrTo b,.int .i64 0]/\me h b I/\ ∀c,Gr h c->Ret zB 31 [sv s] c fun r d=>Gr c d/\ ∃k m u v w z A,r=.tuple #[.agg ⟨plC I k m u v w z A⟩,.int .i64 0]/\pQ d k m u v w z A I):=by
  have D:=fun(c:Hp) (g:Gr h c)=>dec28_ok (s:=s) g.ok f;cases B:kU s with
  | error e=>
    rw [B]at q;simp only [B]at D;exact .inl ⟨_,q,by cases e<;>decide,D⟩
  | ok l=>
    rw [B]at q;simp only [B,D28]at D;simp only [DecJ]at q;cases C:oU l with
    | none=>rw [C]at q;simp only [C]at D;exact .inl ⟨25,q,by decide,D⟩| some I=>
      rw [C]at q;simp only [C]at D;obtain⟨b,rfl,i⟩:=q;exact .inr ⟨b,I,rfl,i,D⟩
 clear q;rcases M with⟨e,rfl,Q,D⟩|⟨b,I,rfl,i,D⟩
 . simp only [BZ,gP (l:=s),seval];refine step_ret (D _ (Gr.refl S.ok)) ?_;rintro _ R ⟨g,rfl⟩;replace S:=S.call g;simp only [BZ,seval];refine ag ay S ?_;clear S;intro h F S j;have N:=gP (l:=[]);simp only [BZ,nil9,seval];refine au (stA S (i:=0) t43.2.1) ?_;clear S;rintro T ⟨S,U⟩;simp only [LC,ae,lay,Xa,Xb,seval]at S;have J:=fun(t:TypeId) (p q:Operand)=>iw (E:=zB) (x:=p) (y:=q) t27.2.2.2.2.1 (.inl ⟨rfl,rfl⟩);simp only [BZ,Q,seval];have K:=fun(p q:Operand)=>e_pnil (E:=zB) (x:=p) (y:=q) t27.2.2.2.2.1;refine av (aB rfl) (q:=0) (ps:=[(7,8)]) (by kernel_rfl) ?_;simp only [BZ,cls,ab,K,seval];refine⟨by simp only [aR,aZ,aM,bo,aP,ne_eq,not_false_eq_true,bj,bH,aQ,aO,bS,cq,az,Xh,ah,seval];rfl,?_⟩;exact S.gr
 . have J:=fun(t:TypeId) (p q:Operand)=>iw (E:=zB) (x:=p) (y:=q) t27.2.2.2.2.1 (.inr ⟨⟨b,rfl⟩,rfl⟩);have K:=fun(p q:Operand) (a:Addr)=>e_ptr (E:=zB) (x:=p) (y:=q) (a:=a) t27.2.2.2.2.1;have V:ImL I:=(by obtain⟨_,_,_,_,_,x⟩:=i;exact x.l);simp only [BZ,gP (l:=s),seval];refine step_ret (D _ (Gr.refl S.ok)) ?_;rintro _ R ⟨g,k,m,u,v,w,z,A,rfl,p⟩;replace S:=S.call g;have O:=g;obtain⟨W,X,Y,Z,p5,p6,p7⟩:=p.fls;have N:=gP (l:=flP I);have L:=S;clear S;have S:=Si L.ok;simp only [BZ,seval];refine ag ay S ?_;clear S;intro h F S j;simp only [BZ,plC,seval];refine au (stA S (i:=0) t43.2.1 (by simp only [ae,XE,XH,W.2.1,X.2.1,Y.2.1,Z.2.1,p5.2.1,p6.2.1,p7.2.1,N.2.1,Xh];rfl)) ?_;clear S;rintro T ⟨S,U⟩;simp only [LC,ae,lay,Xa,Xb,seval]at S;have G:=S.lds (b:=F) (o:=0) (n:=9) m0 (lbt rfl);simp only [BZ,seval];refine av (aB rfl) (q:=0) (ps:=[(7,8)]) (by kernel_rfl) ?_;have k5:=bU S.ok G;simp only [BZ,cls,K,seval];have right:=CK (L.call S.gr).ok (i.gr (O.trans S.gr));refine da right ?_;intro h4 g;replace S:=S.call g;clear g right G;simp only [BZ,cls,seval];refine cF (zm S.ok (i.gr (O.trans S.gr))) ?_;rintro _ h5 ⟨g,ux,uy,ua,uM,uT,uF,uO,rfl,q⟩;have P:=aI g (S.key_lt (b:=F) (by simp [keys]));replace S:=S.call g;have G:=S.lds (b:=F) (o:=0) (n:=9) m0 (lbt rfl);obtain⟨M,q2,q3,q4,q5,q6,q7⟩:=q.fls;simp only [BZ,cls,Xg,Xn,Xj,G,plC,seval];have al:cj zB 32 [.agg ⟨plC I ux uy ua uM uT uF uO⟩,.agg ⟨plC I k m u v w z A⟩] _ _:=Fv S.ok V q (p.gr S.gr);refine da al ?_;intro h6 g;replace S:=S.call g;simp only [BZ,cls,ab,seval];refine⟨by simp only [aR,aZ,aM,bo,aP,ne_eq,not_false_eq_true,bj,bH,aQ,aO,bS,cq,az,Xh,ah,aG P,aJ P,seval],?_⟩;exact(L.call S.gr).gr
theorem tk1{a:Type}{l:List a}(h:k<l.length)(f:a->Bs):(l.take (k+1)).flatMap f=(l.take k).flatMap f++f l[k]:=by rw [Xv h,XD];simp
theorem tkl{a:Type}{l:List a}{f:a->Bs}(hf: ∀x,(f x).length=w):((l.take k).flatMap f).length<=w*l.length:=by rw [eH hf];exact XX _ (by rw [Xy];omega)
def secT:Option Tab->List Sec
 |some T=>[(2,qk T)]|none=>[]
def secC:Option (List Int×Bs)->List Sec
 |some (m,f)=>[(3,gp m),(4,f)]|none=>[]
theorem yo(I:Img):gL I=(1,ji I.g)::(secT I.T++secC I.C):=by unfold gL;cases I.T<;>rcases I.C with _|⟨m,F⟩<;>rfl
theorem zK(x:Int):u64 x<18446744073709551616:=by unfold u64;omega
theorem secs28_ok(ok:OZ h0)(i:ImL I){vx vy va vT vF:Value}(p:pQ h0 vx vy va vM vT vF vO I):Ret zB 8 [.agg ⟨plC I vx vy va vM vT vF vO⟩] h0 fun r h'=>Gr h0 h'/\ip h0 h' r (gL I):=by
 have S:=Si ok;have H:=i.g;have n2:=H.n2;have m2:=H.many;have lX:=H.lX;have lY:=H.lY;have wN:=bJ (k:=.u64) rfl (n:=I.g.nodes) (by simp only [pw];omega);have wA:=bJ (k:=.u64) rfl (n:=I.g.arcs.length) (by simp only [pw];omega);obtain⟨aa,an,ac,ea⟩:=p.g.A.form;subst ea;refine erA (n:=195) (rs:=[.tmp 2]) Tryz.e8 ?_;simp only [BZ,plC,seval];refine ag (bK (by intro x e;cases e)) S ?_;clear S;intro h C S bu;simp only [ae]at S;simp only [BZ];refine av (aB rfl) (q:=0) (ps:=[(4,8),(4,7)]) (by kernel_rfl) ?_;simp only [BZ,aV,ax,a9,cls,wN,S.ld (b:=C) (o:=0) m0 rfl,seval];refine da (fq S.ok (n:=I.g.nodes) (many:=4) (by omega) (by decide)) ?_;intro h g;have k1:=(S.row (b:=C) m0).lt S.ok;have V:=aI g k1;have ka: ∀c,aA (Value.slice aa an ac) c->leaves _ h c=true:=fun c hc=>aI g (p.g.A.lt ok hc|>fun x=>Xt x S.gr.n);replace S:=S.call g;simp only [BZ,aV,ax,a9,cls,(p.g.A.gr S.gr).lenq,wA,S.ld (b:=C) (o:=3) m0 rfl,seval];refine da (fq S.ok (n:=I.g.arcs.length) (many:=4) (by omega) (by decide)) ?_;intro h g;have W:=aI g ((S.row (b:=C) m0).lt S.ok);have Y: ∀c,aA (Value.slice aa an ac) c->leaves _ h c=true:=fun c hc=>aI g (p.g.A.lt ok hc|>fun x=>Xt x S.gr.n);replace S:=S.call g;have ad:=fun(t:TypeId) (x y:Operand)=>ec (E:=zB) (t:=t) (p:=x) (q:=y) (l:=aY 4 I.g.nodes) (m:=aY 4 I.g.arcs.length) (by simp [bq]);simp only [BZ,cls,ad,seval];refine⟨?_,?_⟩
 . cases aa with
   |none=>simp only [aR,aZ,aM,bo,aP,ne_eq,not_false_eq_true,bj,bH,aQ,aO,bS,cq,az,Xh,ah,aG V,aJ V,aG W,aJ W,sI,kQ,sK,vI,pair_n,seval]|some a=>simp only [aR,aZ,aM,bo,aP,ne_eq,not_false_eq_true,bj,bH,aQ,aO,bS,cq,az,Xh,ah,aG V,aJ V,aG W,aJ W,sI,kQ,sK,vI,aG (ka a.block rfl),aJ (ka a.block rfl),aG (Y a.block rfl),aJ (Y a.block rfl),seval]
 clear ka Y V W ad;have gB:=S.gr;have M:=S.row (b:=C) m0;have p:=p.gr gB;have bk:=S.ok;rename Hp=>hB;clear S k1;generalize Value.slice aa an ac=va at*
 -- the nodes
 generalize hP:aY 4 I.g.nodes++aY 4 I.g.arcs.length=Z;have lP:Z.length=8:=by rw [<-hP];simp [bq]
 have lz:(I.g.X.zip I.g.Y).length=I.g.nodes:=by rw [YP];omega
 refine iS (fun d h=>Gr hB h/\d 1=ptrTo C/\d 3=sv (Z++(I.g.X.zip I.g.Y).flatMap xyB)) (fun(k:Nat) d h=>k<=I.g.nodes/\Gr hB h/\d 1=ptrTo C/\d 3=sv (Z++((I.g.X.zip I.g.Y).take k).flatMap xyB)/\d 4=.int .i64 k) (fun k=>I.g.nodes-k) ?_ ?_ 0 ⟨Xd _,Gr.refl bk,by simp [ao,ah]⟩
 . intro k U d h ⟨hk,g,r1,r3,r4⟩;have w:am .i64 ((k:Int)+1)=((k+1:Nat):Int):=(by rw [wrap64]<;>omega);have R:=M.gr g;by_cases hlt:k<I.g.nodes
   . obtain⟨c,o,j,f⟩:=(p.g.X.gr g).ix (kd:=.i64) (aE .i64) (i:=k) (by omega);obtain⟨c',o',D,hle⟩:=(p.g.Y.gr g).ix (kd:=.i64) (aE .i64) (i:=k) (by omega);have J:=tk1 (l:=I.g.X.zip I.g.Y) (k:=k) (by omega) xyB;rw [List.getElem_zip]at J;have lt:=tkl (l:=I.g.X.zip I.g.Y) (k:=k) rV;generalize I.g.X[k]=x at f J;generalize I.g.Y[k]=y at hle J;simp only [encI]at f hle;have kc:=bU g.ok f;have a1:=bU g.ok hle;have kb:=R.lt g.ok;simp only [BZ,r1,r4,R.load1 (o:=0) rfl,aq,hlt,seval];refine av (aB rfl) (q:=0) (ps:=[(8,15),(8,12)]) (by kernel_rfl) ?_;simp only [BZ,aV,ax,a9,cls,r1,r3,r4,R.load1 (o:=1) rfl,j,f,wrap_u64,seval];refine da (fq g.ok (n:=u64 x) (many:=8) (zK x) (by decide)) ?_;intro h1 L;have a2:=aI L kb;have a3:=aI L kc;have a4:=aI L a1;simp only [BZ,aV,ax,a9,cls,r1,r4,(R.gr L).load1 (o:=2) rfl,D,L.load hle,wrap_u64,ec (l:=Z++((I.g.X.zip I.g.Y).take k).flatMap xyB) (m:=aY 8 (u64 x)) (by simp only [Xi,bq];omega),seval];refine da (fq L.ok (n:=u64 y) (many:=8) (zK y) (by decide)) ?_;intro h2 G;have a5:=aI G (Xt kb L.n);have a6:=aI G (Xt kc L.n);have a7:=aI G (Xt a1 L.n);simp only [BZ,cls,r4,ec (l:=Z++((I.g.X.zip I.g.Y).take k).flatMap xyB++aY 8 (u64 x)) (m:=aY 8 (u64 y)) (by simp only [Xi,bq];omega),seval];refine⟨by simp only [aR,aZ,aM,bo,aP,ne_eq,not_false_eq_true,bj,bH,aQ,aO,bS,cq,az,Xh,r1,r4,ah,j,D,aG a2,aJ a2,aG a3,aJ a3,aG a4,aJ a4,aG a5,aJ a5,aG a6,aJ a6,aG a7,aJ a7,seval],?_⟩;simp only [w];refine U (k+1) _ _ (by omega) ⟨by omega,g.trans (L.trans G),by simp [ao,r1],?_,by simp [ao]⟩;simp only [az,seval];rw [J];simp only [xyB,pZ,Xz]
   . simp only [BZ,r1,r4,R.load1 (o:=0) rfl,aq,hlt,seval];rw [Xm (by omega)]at r3;exact cK ⟨g,by simp [ao,r1,ah,r3]⟩
 intro d h ⟨g,r1,r3⟩
 -- the arcs
 have bl:((I.g.X.zip I.g.Y).flatMap xyB).length<=4800:=by rw [eH rV];omega
 generalize af:Z++(I.g.X.zip I.g.Y).flatMap xyB=X at r3;have bm:X.length<=4808:=by rw [<-af,Xi];omega
 have eG:ji I.g=X++I.g.arcs.flatMap n8:=by rw [<-af,<-hP];unfold ji;simp only [Xz]
 simp only [BZ];refine iS (fun d h=>Gr hB h/\d 1=ptrTo C/\d 3=sv (X++I.g.arcs.flatMap n8)) (fun(k:Nat) d h=>k<=I.g.arcs.length/\Gr hB h/\d 1=ptrTo C/\d 3=sv (X++(I.g.arcs.take k).flatMap n8)/\d 5=.int .i64 k) (fun k=>I.g.arcs.length-k) ?_ ?_ 0 ⟨Xd _,g,by simp [ao,r1,r3]⟩
 . clear g r1 r3;intro k U d h ⟨hk,g,r1,r3,r5⟩;have w:am .i64 ((k:Int)+1)=((k+1:Nat):Int):=(by rw [wrap64]<;>omega);have R:=M.gr g;by_cases hlt:k<I.g.arcs.length
   . obtain⟨c,o,j,f⟩:=(p.g.A.gr g).ix (kd:=.i64) dD hlt;have J:=tk1 (l:=I.g.arcs) hlt n8;have lt:=tkl (l:=I.g.arcs) (k:=k) uE;have ha:=H.arcs I.g.arcs[k] (Xs hlt);generalize I.g.arcs[k]=a at f J ha;have ws:=bJ (k:=.u64) rfl (n:=a.s) (by simp only [pw];omega);have wt:=bJ (k:=.u64) rfl (n:=a.t) (by simp only [pw];omega);have ww:=bJ (k:=.u64) rfl (n:=a.w) (by simp only [pw];omega);have S:=Si g.ok;simp only [BZ,r1,r5,R.load1 (o:=3) rfl,(p.g.A.gr g).lenq,aq,hlt,j,f,seval];refine ag ay S ?_;clear S;intro h b6 S bv;simp only [BZ,cR,seval];refine au (stA S (i:=0) t26.2.2.1) ?_;clear S;rintro h ⟨S,mo⟩;clear mo;simp only [LC,ae,lay,Xa,Xb,seval]at S;simp only [BZ];refine av (aB rfl) (q:=0) (ps:=[(9,12),(4,12),(4,7)]) (by kernel_rfl) ?_;simp only [BZ,aV,ax,a9,cls,r3,ws,S.ld (b:=b6) (o:=0) m0 rfl,seval];refine da (fq S.ok (n:=a.s) (many:=4) (by omega) (by decide)) ?_;intro h1 L;have V:=aI L ((S.row (b:=b6) m0).lt S.ok);replace S:=S.call L;simp only [BZ,aV,ax,a9,cls,wt,S.ld (b:=b6) (o:=1) m0 rfl,ec (l:=X++(I.g.arcs.take k).flatMap n8) (m:=aY 4 a.s) (by simp only [Xi,bq];omega),seval];refine da (fq S.ok (n:=a.t) (many:=4) (by omega) (by decide)) ?_;intro h2 G;have W:=aI G ((S.row (b:=b6) m0).lt S.ok);replace S:=S.call G;simp only [BZ,aV,ax,a9,cls,ww,S.ld (b:=b6) (o:=2) m0 rfl,ec (l:=X++(I.g.arcs.take k).flatMap n8++aY 4 a.s) (m:=aY 4 a.t) (by simp only [Xi,bq];omega),seval];refine da (fq S.ok (n:=a.w) (many:=4) (by omega) (by decide)) ?_;intro h3 g3;have v3:=aI g3 ((S.row (b:=b6) m0).lt S.ok);replace S:=S.call g3;simp only [BZ,cls,r5,ec (l:=X++(I.g.arcs.take k).flatMap n8++aY 4 a.s++aY 4 a.t) (m:=aY 4 a.w) (by simp only [Xi,bq];omega),seval];refine⟨by simp only [aR,aZ,aM,bo,aP,ne_eq,not_false_eq_true,bj,bH,aQ,aO,bS,cq,az,Xh,r1,r5,ah,aG V,aJ V,aG W,aJ W,aG v3,aJ v3,seval],?_⟩;simp only [w];refine U (k+1) _ _ (by omega) ⟨by omega,g.trans S.gr,by simp [ao,r1],?_,by simp [ao]⟩;simp only [az,seval];rw [J];simp only [n8,Xz]
   . simp only [BZ,r1,r5,R.load1 (o:=3) rfl,(p.g.A.gr g).lenq,aq,hlt,seval];rw [Xm (by omega)]at r3;exact cK ⟨g,by simp [ao,r1,ah,r3]⟩
 clear g r1 r3;intro d h ⟨g,r1,r3⟩;rw [<-eG]at r3;clear eG af bm bl hP lP lz Z X;have lG:=C0 H;have z: ∀{n:Nat},(0<n)->(0:Int)<(n:Int):=fun h=>by omega
 have R:=M.gr g;have S:St NoM hB h [] []:=⟨g.fr,fun p hp=>(by cases hp),fun p hp=>(by cases hp),List.nodup_nil⟩;simp only [BZ,r3,gP,seval];refine ag (bD (by exact t33.1) (by exact Yz) (by decide) (by rfl)) S ?_;clear S;intro h bs S a8;simp only [LC,bA,bN,ae,Xo,Xl,Xk,Xq,seval]at S;have u:ip hB h (.slice (some ⟨bs,0,none⟩) 1 1) [(1,ji I.g)]:=⟨bs,none,rfl,a8,S.row m0,.inl rfl⟩;have G:=S.gr;have R:=M.gr G;clear S g;simp only [BZ,r1,R.load1 (o:=4) rfl,(p.M.gr G).lenq,seval];refine pC (fun d h=> ∃A,Gr hB h/\ip hB h A ((1,ji I.g)::secT I.T)/\d 1=ptrTo C/\d 7=A) ?_ ?_ ?_
 . intro K;have K:=of_decide_eq_true K;cases hT:I.T with
   |none=>simp [mg,hT]at K| some T=>
     have N:=i.t T hT;have eT:mg I=T:=(by simp [mg,hT]);have pM:=p.M;have pT:=p.T;have pF:=p.F;rw [eT]at pM pT pF K;have t1:=N.l1;have t2:=N.l2;have bn:=N.to;have bp:=N.fr;rw [bn]at pT;rw [bp]at pF;have wl:=bJ (k:=.u64) rfl (n:=T.l.length) (by simp only [pw];omega);simp only [BZ,aV,ax,a9,r1,R.load1 (o:=4) rfl,(pM.gr G).lenq,wl,seval];refine ar (fq G.ok (n:=T.l.length) (many:=1) (by omega) (by decide)) ?_;intro h B;replace u:=u.gr B;replace G:=G.trans B;clear B R;simp only [BZ,seval];generalize ba:Value.slice (some ⟨bs,0,none⟩) 1 1=A at u;have bx:(aY 1 T.l.length).length=1:=bq _ _;refine iS (fun d h=>Gr hB h/\ip hB h A [(1,ji I.g)]/\d 1=ptrTo C/\d 7=A/\d 3=sv (aY 1 T.l.length++T.l.flatMap m8)) (fun(k:Nat) d h=>k<=T.l.length/\Gr hB h/\ip hB h A [(1,ji I.g)]/\d 1=ptrTo C/\d 7=A/\d 3=sv (aY 1 T.l.length++(T.l.take k).flatMap m8)/\d 8=.int .i64 k) (fun k=>T.l.length-k) ?_ ?_ 0 ⟨Xd _,G,u,by simp [ao,r1,ah,ba]⟩
     . clear u G r1 r3;intro k U d h ⟨hk,g,u,r1,r7,r3,r8⟩;have w:am .i64 ((k:Int)+1)=((k+1:Nat):Int):=(by rw [wrap64]<;>omega);have R:=M.gr g;by_cases hlt:k<T.l.length
       . obtain⟨c,o,j,f⟩:=(pM.gr g).ix (kd:=.i64) (aE .i64) hlt;have J:=tk1 (l:=T.l) hlt m8;have lt:=tkl (l:=T.l) (k:=k) qM;have hr:=N.rl T.l[k] (Xs hlt);generalize T.l[k]=z at f J hr;simp only [encI]at f;have wz:am .u64 z=((z.toNat:Nat):Int):=(by have:=bJ (k:=.u64) rfl (n:=z.toNat) (by simp only [pw];omega);rw [<-this];congr 1;omega);simp only [BZ,aV,ax,a9,r1,r3,r8,R.load1 (o:=4) rfl,(pM.gr g).lenq,aq,hlt,j,f,wz,seval];refine ar (fq g.ok (n:=z.toNat) (many:=4) (by omega) (by decide)) ?_;intro h B;simp only [BZ,r8,w,ec (l:=aY 1 T.l.length++(T.l.take k).flatMap m8) (m:=aY 4 z.toNat) (by simp only [Xi,bq];omega),seval];refine U (k+1) _ _ (by omega) ⟨by omega,g.trans B,u.gr B,by simp [ao,r1],by simp [ao,r7],?_,by simp [ao]⟩;simp only [az,seval];rw [J,Xz];rfl
       . simp only [BZ,r1,r8,R.load1 (o:=4) rfl,(pM.gr g).lenq,aq,hlt,seval];rw [Xm (by omega)]at r3;exact cK ⟨g,u,by simp [ao,r1,ah,r7,r3]⟩
     clear u G r1 r3 ba;intro d h ⟨g,u,r1,r7,r3⟩;have lM:(T.l.flatMap m8).length<=64:=(by rw [eH qM];omega);generalize bb:aY 1 T.l.length++T.l.flatMap m8=PM at r3;have bB:PM.length<=65:=(by rw [<-bb,Xi];omega);have eB:qk T=PM++(mix T.to T.fr).flatMap iV:=(by rw [<-bb];unfold qk;rw [Xz]);have ai:T.to.length=T.fr.length:=(by omega);have bc: ∀r∈mix T.to T.fr,(iV r).length=8*I.g.nodes:=fun r hr=>(Ak hr).elim (fun h'=>sG (N.rTo r h').1) (fun h'=>sG (N.rFr r h').1);have bw:((mix T.to T.fr).flatMap iV).length<=76800:=(by rw [vZ _ bc,uu ai];have:8*I.g.nodes*(2*T.to.length)<=2400*32:=XW (by omega) (by omega);omega);have br: ∀k,(((mix T.to T.fr).take k).flatMap iV).length<=76800:=fun k=>(by have:(((mix T.to T.fr).take k).flatMap iV).length+(((mix T.to T.fr).drop k).flatMap iV).length=((mix T.to T.fr).flatMap iV).length:=(by rw [<-Xi,<-XD,YW]);omega);simp only [BZ];refine iS (fun d h=>Gr hB h/\ip hB h A [(1,ji I.g)]/\d 1=ptrTo C/\d 7=A/\d 3=sv (PM++(mix T.to T.fr).flatMap iV)) (fun(k:Nat) d h=>k<=T.l.length/\Gr hB h/\ip hB h A [(1,ji I.g)]/\d 1=ptrTo C/\d 7=A/\d 3=sv (PM++((mix T.to T.fr).take (2*k)).flatMap iV)/\d 9=.int .i64 k) (fun k=>T.l.length-k) ?_ ?_ 0 ⟨Xd _,g,u,by simp [ao,r1,r7,r3]⟩
     . clear u g r1 r3 r7;intro k U d h ⟨hk,g,u,r1,r7,r3,r9⟩;have w:am .i64 ((k:Int)+1)=((k+1:Nat):Int):=(by rw [wrap64]<;>omega);have R:=M.gr g;by_cases hlt:k<T.l.length
       . have ak:k<T.to.length:=(by omega);have bd:k<T.fr.length:=(by omega);have J:=B4 ai ak;have be:aW T.to k=T.to[k]:=(by simp [aW,zO,ak]);have bf:aW T.fr k=T.fr[k]:=(by simp [aW,zO,bd]);have bh:=(N.rTo _ (Xs ak)).1;have bt:=(N.rFr _ (Xs bd)).1;have l0:=br (2*k);generalize T.to[k]=Q at J bh be;generalize T.fr[k]=rb at J bt bf;generalize bi:PM++((mix T.to T.fr).take (2*k)).flatMap iV=PK at r3;have bL:PK.length<=76865:=(by rw [<-bi,Xi];omega);simp only [BZ,r1,r9,R.load1 (o:=4) rfl,(pM.gr g).lenq,aq,hlt,seval];refine iS (fun d h=>Gr hB h/\ip hB h A [(1,ji I.g)]/\d 1=ptrTo C/\d 7=A/\d 3=sv (PK++iV Q)/\d 9=.int .i64 k) (fun(v:Nat) d h=>v<=I.g.nodes/\Gr hB h/\ip hB h A [(1,ji I.g)]/\d 1=ptrTo C/\d 7=A/\d 3=sv (PK++(Q.take v).flatMap pZ)/\d 9=.int .i64 k/\d 10=.int .i64 v) (fun v=>I.g.nodes-v) ?_ ?_ 0 ⟨Xd _,g,u,by simp [ao,r1,ah,r7,r3,r9]⟩
         . clear u g r1 r3 r7 r9 R;intro v al d h ⟨hv,g,u,r1,r7,r3,r9,r10⟩;have w:am .i64 ((v:Int)+1)=((v+1:Nat):Int):=(by rw [wrap64]<;>omega);have R:=M.gr g;by_cases O:v<I.g.nodes
           . obtain⟨x,⟨c,o,j,f⟩,hx,_⟩:=(pT.gr g).row hlt;rw [be]at hx;obtain⟨c',o',D,hle⟩:=hx.ix (kd:=.i64) (aE .i64) (i:=v) (by omega);have ev:=tk1 (l:=Q) (k:=v) (by omega) pZ;have lt:=tkl (l:=Q) (k:=v) sq;generalize Q[v]=z at hle ev;simp only [encI]at hle;simp only [BZ,aV,ax,a9,r1,r3,r9,r10,R.load1 (o:=0) rfl,R.load1 (o:=5) rfl,aq,O,j,f,D,hle,wrap_u64,seval];refine ar (fq g.ok (n:=u64 z) (many:=8) (zK z) (by decide)) ?_;intro h B;simp only [BZ,r10,w,ec (l:=PK++(Q.take v).flatMap pZ) (m:=aY 8 (u64 z)) (by simp only [Xi,bq];omega),seval];refine al (v+1) _ _ (by omega) ⟨by omega,g.trans B,u.gr B,by simp [ao,r1],by simp [ao,r7],?_,by simp [ao,r9]⟩;simp only [az,seval];rw [ev,Xz];rfl
           . simp only [BZ,r1,r10,R.load1 (o:=0) rfl,aq,O,seval];rw [Xm (by omega)]at r3;exact cK ⟨g,u,by simp [ao,r1,ah,r7,r3,iV,r9]⟩
         clear u g r1 r3 r7 r9 R;intro d h ⟨g,u,r1,r7,r3,r9⟩;have la:(iV Q).length<=2400:=(by rw [sG bh];omega);simp only [BZ];refine iS (fun d h=>Gr hB h/\ip hB h A [(1,ji I.g)]/\d 1=ptrTo C/\d 7=A/\d 3=sv (PK++iV Q++iV rb)/\d 9=.int .i64 k) (fun(v:Nat) d h=>v<=I.g.nodes/\Gr hB h/\ip hB h A [(1,ji I.g)]/\d 1=ptrTo C/\d 7=A/\d 3=sv (PK++iV Q++(rb.take v).flatMap pZ)/\d 9=.int .i64 k/\d 11=.int .i64 v) (fun v=>I.g.nodes-v) ?_ ?_ 0 ⟨Xd _,g,u,by simp [ao,r1,r7,r3,r9]⟩
         . clear u g r1 r3 r7 r9;intro v al d h ⟨hv,g,u,r1,r7,r3,r9,r11⟩;have w:am .i64 ((v:Int)+1)=((v+1:Nat):Int):=(by rw [wrap64]<;>omega);have R:=M.gr g;by_cases O:v<I.g.nodes
           . obtain⟨x,⟨c,o,j,f⟩,hx,_⟩:=(pF.gr g).row hlt;rw [bf]at hx;obtain⟨c',o',D,hle⟩:=hx.ix (kd:=.i64) (aE .i64) (i:=v) (by omega);have ev:=tk1 (l:=rb) (k:=v) (by omega) pZ;have lt:=tkl (l:=rb) (k:=v) sq;generalize rb[v]=z at hle ev;simp only [encI]at hle;simp only [BZ,aV,ax,a9,r1,r3,r9,r11,R.load1 (o:=0) rfl,R.load1 (o:=6) rfl,aq,O,j,f,D,hle,wrap_u64,seval];refine ar (fq g.ok (n:=u64 z) (many:=8) (zK z) (by decide)) ?_;intro h B;simp only [BZ,r11,w,ec (l:=PK++iV Q++(rb.take v).flatMap pZ) (m:=aY 8 (u64 z)) (by simp only [Xi,bq];omega),seval];refine al (v+1) _ _ (by omega) ⟨by omega,g.trans B,u.gr B,by simp [ao,r1],by simp [ao,r7],?_,by simp [ao,r9]⟩;simp only [az,seval];rw [ev];simp only [Xz];rfl
           . simp only [BZ,r1,r11,R.load1 (o:=0) rfl,aq,O,seval];rw [Xm (by omega)]at r3;exact cK ⟨g,u,by simp [ao,r1,ah,r7,r3,iV,r9]⟩
         clear u g r1 r3 r7 r9;intro d h ⟨g,u,r1,r7,r3,r9⟩;simp only [BZ,r9,w,seval];refine U (k+1) _ _ (by omega) ⟨by omega,g,u,by simp [ao,r1],by simp [ao,r7],?_,by simp [ao]⟩;simp only [az,r3,seval];rw [J,XD,<-Xz,bi];simp [Xz]
       . simp only [BZ,r1,r9,R.load1 (o:=4) rfl,(pM.gr g).lenq,aq,hlt,seval];rw [Xm (by rw [uu ai];omega)]at r3;exact cK ⟨g,u,by simp [ao,r1,ah,r7,r3]⟩
     clear u g r1 r3 r7;intro d h ⟨g,u,r1,r7,r3⟩;rw [<-eB]at r3;have S:=Si g.ok;simp only [BZ,r3,r7,gP,seval];refine ag (bD (by exact t33.1) (by exact Yz) (by decide) (by rfl)) S ?_;clear S;intro h P S aL;simp only [LC,bA,bN,ae,Xo,Xl,Xk,Xq,seval]at S;have a0:aF h 2 (.slice (some ⟨P,0,none⟩) 1 1)=some (1,([(2,qk T)]:List Sec).flatMap encS):=(by simp only [aF];rw [S.lds (b:=P) (o:=0) (n:=1*2) m0 (lbt rfl)];rfl);have B:=S.gr;simp only [BZ,seval];refine dq (sec_app (g.trans B) (u.gr B) (ys:=[(2,qk T)]) a0 rfl (by decide) (by simp) (by simp)) ?_;clear S;rintro h' v' ⟨g',q'⟩;simp only [BZ,seval];exact cK ⟨v',g',q',by simp [ao,r1,ah]⟩
 . intro K;have K:=of_decide_eq_false K;cases hT:I.T with
   | some T=>have N:=i.t T hT;have t1:=N.l1;rw [show mg I=T by simp [mg,hT]]at K;omega| none=>simp only [BZ];exact cK ⟨_,G,u,by simp [ao,r1,ah]⟩
 clear u G R;intro d h ⟨A,g,q,r1,r7⟩;have R:=M.gr g;have bM:(secT I.T).length<=1:=by cases I.T<;>simp [secT]
 simp only [BZ,r1,R.load1 (o:=7) rfl,(p.O.gr g).lenq,seval];refine pC (fun d h=> ∃A,Gr hB h/\ip hB h A (gL I)/\d 7=A) ?_ ?_ ?_
 . intro K;have K:=of_decide_eq_true K;rcases hC:I.C with _|⟨m,F⟩
   . simp [ofP,hC]at K
   . obtain⟨c1,c2,c3⟩:=i.c m F hC;have eO:ofP I=m:=(by simp [ofP,hC]);have eF:flP I=F:=(by simp [flP,hC]);have pO:=p.O;rw [eO]at pO K;rw [eF]at M;clear R;have e0:Value.string ⟨#[]⟩=sv (gp (m.take 0)):=rfl;simp only [BZ];refine iS (fun d h=>Gr hB h/\ip hB h A ((1,ji I.g)::secT I.T)/\d 1=ptrTo C/\d 7=A/\d 3=sv (gp m)) (fun(k:Nat) d h=>k<=m.length/\Gr hB h/\ip hB h A ((1,ji I.g)::secT I.T)/\d 1=ptrTo C/\d 7=A/\d 3=sv (gp (m.take k))/\d 12=.int .i64 k) (fun k=>m.length-k) ?_ ?_ 0 ⟨Xd _,g,q,by simp [ao,r1],by simp [ao,r7],by simp [ao];rfl,by simp [ao]⟩
     . clear g q r1 r7;intro k U d h ⟨hk,g,u,r1,r7,r3,r12⟩;have w:am .i64 ((k:Int)+1)=((k+1:Nat):Int):=(by rw [wrap64]<;>omega);have R:=M.gr g;by_cases hlt:k<m.length
       . obtain⟨c,o,j,f⟩:=(pO.gr g).ix (kd:=.i64) (aE .i64) hlt;have J:gp (m.take (k+1))=gp (m.take k)++aY 1 m[k].toNat:=(by rw [Xv hlt];unfold gp;rw [Xx];rfl);have hr:=c3 m[k] (Xs hlt);generalize m[k]=x at f J hr;simp only [encI]at f;have wx:am .u64 x=((x.toNat:Nat):Int):=(by have:=bJ (k:=.u64) rfl (n:=x.toNat) (by simp only [pw];omega);rw [<-this];congr 1;omega);have lc:(gp (m.take k)).length<=300:=(by have:=H.n2;simp [gp];omega);simp only [BZ,aV,ax,a9,r1,r3,r12,R.load1 (o:=7) rfl,(pO.gr g).lenq,aq,hlt,j,f,wx,seval];refine ar (fq g.ok (n:=x.toNat) (many:=1) (by omega) (by decide)) ?_;intro h B;simp only [BZ,r12,w,ec (l:=gp (m.take k)) (m:=aY 1 x.toNat) (by simp only [bq];omega),seval];refine U (k+1) _ _ (by omega) ⟨by omega,g.trans B,u.gr B,by simp [ao,r1],by simp [ao,r7],?_,by simp [ao]⟩;simp only [az,seval];rw [J]
       . simp only [BZ,r1,r12,R.load1 (o:=7) rfl,(pO.gr g).lenq,aq,hlt,seval];rw [Xm (by omega)]at r3;exact cK ⟨g,u,by simp [ao,r1,ah,r7,r3]⟩
     clear g q r1 r7;intro d h ⟨g,q,r1,r7,r3⟩;have R:=M.gr g;have S:=Si g.ok;simp only [BZ,r1,r3,r7,gP,R.load1 (o:=8) rfl,seval];refine ag (bD (by exact t33.1) (by exact Yz) (by decide) (by rfl)) S ?_;clear S;intro h P S aL;simp only [LC,bA,bN,ae,Xo,Xl,Xk,Xq,seval]at S;have a0:aF h 2 (.slice (some ⟨P,0,none⟩) 2 2)=some (2,([(3,gp m),(4,F)]:List Sec).flatMap encS):=(by simp only [aF];rw [S.lds (b:=P) (o:=0) (n:=2*2) m0 (lbt rfl)];rfl);have B:=S.gr;simp only [BZ,seval];refine dq (sec_app (g.trans B) (q.gr B) (ys:=[(3,gp m),(4,F)]) a0 rfl (by decide) (by simp;omega) (by simp)) ?_;clear S;rintro h' v' ⟨g',q'⟩;simp only [BZ,seval];exact cK ⟨v',g',by rw [yo,hC];exact q',by simp [ao]⟩
 . intro K;have K:=of_decide_eq_false K;rcases hC:I.C with _|⟨m,F⟩
   . simp only [BZ];exact cK ⟨A,g,by rw [yo,hC];simpa [secC]using q,by simp [ao,r7]⟩
   . obtain⟨c1,c2,c3⟩:=i.c m F hC;rw [show ofP I=m by simp [ofP,hC]]at K;have:=H.n1;omega
 clear q g r1 r7 R;intro d h ⟨A,g,q,r7⟩;simp only [BZ,ab,r7,seval];obtain⟨b,sp,e,n,r,s⟩:=q;exact⟨gB.trans g,b,sp,e,Xu gB.n n,r,s⟩
theorem Eu{a:Hp}(b:OZ a):cj zB 11 [] a (.bool true):=ret_orc rfl ⟨rfl,Gr.refl b⟩
theorem SlW.grU{kd:IntKind}{l:List Int}(s:SlW h kd v l)(g:Gr h h'):SlW h' kd v l:=s.imp (fun h=>h) (fun⟨b,o,c,e,a,d⟩=>⟨b,o,c,e,a,g.load d⟩)
theorem scan_len(l:List Int): ∀k m,scan k l=some m->m<=k+l.length:=by
 induction l with
 |nil=>intro k m e;cases e;simp
 | cons x b a=>
   intro k m e;rw [scan]at e
   split at e
   . cases e
   . split at e
     . have:=a _ _ e;simp;omega
     . have:=a _ _ e;simp;omega
theorem rows_le{l:List Int}(h: ¬mS l):gD l+1<=(l.length:Int):=by
 cases c:scan 0 l with
 |none=>exact absurd (z8 c) h| some k=>
   obtain⟨a,b⟩:=B2 c;have d:=scan_len l 0 k c;have:k≠0:=fun e=>h (a.2 (.inl e));have:=b this;omega
theorem made_len(i:me h b I)(d:MadeI j I):(qW (gL I)).length<=2416/\ ∀x∈gL I,x.2.length<=1400:=by
 have o:=i.l;obtain⟨u,v,p,q,_,_,_,_,a⟩:=i;have w:=d.g.n2;have m2:=d.g.many;have y:(ji I.g).length<=1400:=by
  have r:(I.g.X.zip I.g.Y).length=I.g.nodes:=by rw [YP,d.g.lX,d.g.lY];omega
  unfold ji;simp only [Xi,bq,eH rV,eH uE,r];omega
 have s: ∀T,I.T=some T->(qk T).length<=785:=fun T e=>by have l:=o.t T e;rw [BU l];have:=(d.z T e).2.1;have:T.l.length*(4+16*I.g.nodes)<=4*196:=XW this (by omega);omega
 have n: ∀m F,I.C=some (m,F)->m.length<=12/\F.length<=156:=fun m F e=>by rw [e]at a;obtain⟨k,z,A,f,g,B,_,C,_,D,_,rfl,_,t,E,_⟩:=(a:lU h p q I.g m F);have:=rows_le t;have:f*g<=12*13:=XW (by omega) (by omega);refine⟨by omega,by simpa [byB]using this⟩
 rw [Da];unfold gL;cases l:I.T with
 | none=>
   cases a:I.C with
   |none=>simp;omega| some c=>
     obtain⟨m,F⟩:=c;have:=n m F a;simp [gp];omega
 | some T=>
   have:=s T l;cases a:I.C with
   |none=>simp;omega| some c=>
     obtain⟨m,F⟩:=c;have:=n m F a;simp [gp];omega
theorem conv_new{a c e:TypeId}{l:Bs}(hs:E.und a=some .string)(d:E.und c=some (.slice e))(f:E.und e=some (.int .u8))(g:l.length<=1000000):rD h (fun h=>dK (aV E h a c (sv l))) (fun b=>.slice (some ⟨b,0,some 1⟩) l.length l.length) (.row (bI l) 1):=by
 refine⟨.cells (Tr.ofList (bI l)) l.length e 1,fun x=>?_,fun i=>?_⟩
 . simp only [aV,ax,hs,d,f,sv,mO,YX (Xu g (by decide:1000000<=1099511627776)),cond_true,bytesV,gf,dK];rfl
 . have:=qm i (bI l) e 1;rwa [show(bI l).length=l.length by simp [bI]]at this
theorem row_str{l:Bs}(R:Row h b (bI l) 1)(a:l.length=n):strOf h (.slice (some ⟨b,0,some 1⟩) n n)=some (sv l):=by subst a;refine uU (.inr ⟨b,0,some 1,_,rfl,XA _,?_⟩);rw [byF,R.load (by rw [eU];omega),Xj,Xm (by rw [eU];omega)]
theorem rem_nat:(a:Int).tmod (n:Int)=((a%n:Nat):Int):=by rw [Xp (by omega)];exact(XZ _ _).symm
theorem yv(ok:OZ A){Z M:Value}{j d f r:Int}{B ns:List Int}(hB:SlW A .u8 Z B)(hO:SlW A .u8 vO O)(cO: ∀x∈O,0<=x/\x<=255)(hM:SlW A .u8 M ms)(N: ∀x∈ms,0<=x/\x<=255)(hN:SlW A .i64 vN ns)(cN: ∀x∈ns,-9223372036854775808<=x/\x<=9223372036854775807)(P:0<=j/\j<=255)(Q:0<=d/\d<=255)(R:0<=f/\f<=255)(T:0<=r/\r<=255):cj zB 3 [.agg ⟨[Z,vO,M,.int .u8 j,vN]⟩,.agg ⟨[.int .u8 d,.int .u8 f,.int .u8 r]⟩,sv s] A (.bool true):=by
 have S:=Si ok;obtain⟨j,rfl⟩:=Ya P.1;obtain⟨d,rfl⟩:=Ya Q.1;obtain⟨f,rfl⟩:=Ya R.1;obtain⟨r,rfl⟩:=Ya T.1;replace P:j<=255:=by omega
 have fB:=hB.sl.fl;have fO:=hO.sl.fl;have fM:=hM.sl.fl;have fN:=hN.sl.fl;refine erA (n:=100) (rs:=[.tmp 6]) Tryz.e3 ?_;simp only [BZ,seval];refine ag (bK (by intro x e;cases e)) S ?_;clear S;intro h b3 S aa;simp only [ae]at S;simp only [BZ,if_false,seval];refine ag (bK (by intro x e;cases e)) S ?_;clear S;intro h D S ac;simp only [ae]at S;simp only [BZ,Xj,Xg,Xn,S.lds (b:=b3) (o:=0) (n:=5) m1 (lbt rfl),seval];refine step_ret (made28_ok S.ok (hB.grU S.gr) (hO.grU S.gr) cO (hM.grU S.gr) N (hN.grU S.gr) cN P) ?_;rintro _ hm ⟨g,b,I,rfl,C,mI⟩;replace S:=S.call g;have U:=C.l;have sz:=im_size U;obtain⟨ml,_⟩:=made_len C mI;have V:(gL I).length<=16:=by rw [yo];cases I.T<;>rcases I.C with _|⟨m,F⟩<;>exact lbt rfl
 have lp:11<=(qW (gL I)).length:=by rw [Da];omega
 have so:=secs_ok U;have eq:=fun(p q:Operand) (a:Addr)=>e_ptr (E:=zB) (x:=p) (y:=q) (a:=a) t27.2.2.2.2.1;simp only [BZ,eq,seval];refine step_ret (DE S.ok C sz) ?_;rintro _ h1 ⟨g,rfl⟩;replace S:=S.call g;replace C:=C.gr g;simp only [BZ,seval];refine step_ret (zm S.ok C) ?_;rintro _ h2 ⟨g,vx,vy,va,M,vT,vF,af,rfl,pl⟩;replace S:=S.call g;simp only [BZ,seval];refine step_ret (secs28_ok S.ok U pl) ?_;rintro v h3 ⟨g,G⟩;replace S:=S.call g;have ai:=G.sl.fl;simp only [BZ,seval];refine ar (enc27_ok S.ok G.sl V (fun x H=>(so x H).1) sz) ?_;intro h4 g;replace S:=S.call g;have q0:decide (qW (gL I)=qW (gL I))=true:=decide_eq_true rfl;generalize qW (gL I)=t at*
 have nl: ¬((t.length:Nat):Int)=0:=by omega
 have tl:((t.length:Nat):Int)≠0:=by omega
 simp only [BZ,Cf,cw,nl,seval];refine ag (conv_new Tryz.t9.1 t22.1 Tryz.t5.1 (l:=t) (by omega)) S ?_;clear S;intro h bt S ad;have J: ∀x:Nat,x<=255->am .i64 (x:Int)=(x:Int):=fun x H=>by rw [wrap64]<;>omega
 have K: ∀x:Nat,x<=255->am .i64 ((x:Int)*256)=((x*256:Nat):Int):=fun x H=>by rw [wrap64]<;>omega
 have L: ∀x y:Nat,x<=255->y<=255->am .i64 (((x*256:Nat):Int)+(y:Int))=((x*256+y:Nat):Int):=fun x y H hy=>by rw [wrap64]<;>omega
 have w:d<=255:=by omega
 have z:f<=255:=by omega
 have c2:r<=255:=by omega
 have i0:i7 (.int .i64 0) 3=some 0:=rfl;have i1:i7 (.int .i64 1) 3=some 1:=rfl;have i2:i7 (.int .i64 2) 3=some 2:=rfl;have hk:(d*256+f)%t.length<t.length:=Ye _ (by omega);have ak:(f*256+d)%t.length<t.length:=Ye _ (by omega);have W:((d*256+f:Nat):Int).tmod (t.length:Int)=(((d*256+f)%t.length:Nat):Int):=rem_nat;have X:((f*256+d:Nat):Int).tmod (t.length:Int)=(((f*256+d)%t.length:Nat):Int):=rem_nat;simp only [BZ,seval];refine av (aB rfl) (q:=0) (ps:=[]) (by kernel_rfl) ?_;simp only [BZ,aV,ax,a9,cls,i0,i1,i2,J d w,J f z,K d w,K f z,L d f w z,L f d z w,fS tl,W,ey hk,S.ld (b:=D) (o:=0) m1 rfl,S.ld (b:=D) (o:=1) m1 rfl,S.ld (b:=D) (o:=2) m1 rfl,seval];refine dM (aw S (i:=0) rfl Tryz.t5.2.2.1 cE (by rw [eU];exact hk) ono) ?_;clear S;rintro h ⟨S,_⟩;simp only [LC]at S;have bs: ∀k,(bI t).set k (.int .u8 (r:Int))=bI (t.set k (UInt8.ofNat r)):=fun k=>by unfold bI;rw [List.map_set,UInt8.toNat_ofNat',Nat.mod_eq_of_lt (show r<256 by omega)]
 rw [bs]at S;have lu:(t.set ((d*256+f)%t.length) (UInt8.ofNat r)).length=t.length:=Yp;generalize t.set ((d*256+f)%t.length) (UInt8.ofNat r)=u at S lu;have sl:=qw (l:=t) (k:=.i64) (b:=(f*256+d)%t.length) Tryz.t9.1 (by omega);simp only [BZ,aV,ax,a9,XC,XG,i0,i1,J d w,J f z,K d w,K f z,L d f w z,L f d z w,fS tl,X,cw,sl,S.ld (b:=D) (o:=0) m1 rfl,S.ld (b:=D) (o:=1) m1 rfl,seval];have lc:(t.take ((f*256+d)%t.length)).length<t.length:=by rw [Xy];omega
 generalize t.take ((f*256+d)%t.length)=c at lc;refine ar (mD S.ok (s:=t) (by omega)) ?_;intro h g;replace S:=S.call g;simp only [BZ,aV,ax,row_str (S.row m0) lu,seval];refine ar (mD S.ok (s:=u) (by omega)) ?_;intro h g;replace S:=S.call g;simp only [BZ,seval];refine ar (mD S.ok (s:=c) (by omega)) ?_;intro h g;replace S:=S.call g;simp only [BZ,ec (l:=t) (m:=c) (by omega),seval];refine ar (mD S.ok (s:=t++c) (by rw [Xi];omega)) ?_;intro h g;replace S:=S.call g;have e200:min ((s.length:Nat):Int) 200=((min s.length 200:Nat):Int):=by omega
 have Y:=qw (l:=s) (k:=.i64) (b:=min s.length 200) Tryz.t9.1 (by omega);simp only [BZ,XC,XG,cw,e200,Y,seval];refine ar (mD S.ok (s:=s.take (min s.length 200)) (by rw [Xy];omega)) ?_;intro h g;replace S:=S.call g;simp only [BZ,seval];refine ar (Eu S.ok) ?_;intro h g;replace S:=S.call g;simp only [BZ,ab,seval];exact S.gr
section
open Go.ChangeShapes Go.WideShapes Go.RowKit
theorem rowAt_le{b:TypeId->Bool}{d:Nat}{e:TypeId}{off:Nat}(h:rowAt P b d e a off n=true):off<=a*P.cellsOf e:=by
 cases d with
 |zero=>cases h
 | succ d=>
   unfold rowAt at h;simp only []at h
   split at h
   . cases h
   . rename_i i;have c:0<P.cellsOf e:=(by omega);have f:=Nat.div_add_mod off (P.cellsOf e);simp only [Bool.or_eq_true,Bool.and_eq_true,beq_iff_eq,decide_eq_true_eq]at h;rcases h with⟨⟨g,j⟩,_⟩|⟨g,_⟩
     . have:P.cellsOf e*(off/P.cellsOf e)<=P.cellsOf e*a:=XX _ (by omega);rw [X6 a];omega
     . have:P.cellsOf e*(off/P.cellsOf e+1)<=P.cellsOf e*a:=XX _ (by omega);have hlt:=Ye off c;rw [X5,Xk]at this;rw [X6 a];omega
theorem liesAt_le{d:Nat}: ∀{e:TypeId} {a off:Nat} {u:TypeId} {n:Nat},liesAt P d e a off u n=true->off<=a*P.cellsOf e:=by
 induction d with
 |zero=>intro e a off u n h;cases h
 | succ d b=>
   intro e a off u n h;unfold liesAt at h;rw [Bool.or_eq_true]at h;rcases h with h|h
   . exact rowAt_le h
   . split at h
     . exact b h
     . cases h
theorem has_W{r:_root_.Go.Reach}{a:Addr}{e:TypeId}(h:W.has P r base a e n):a.spot=none/\a.block<W.heap.size/\ ∃l,(hpW W).load (a.block+16) a.off 0=some l:=by
 obtain⟨_,f,i,c,b,k⟩:=h;have hle:=liesAt_le k;have d:a.off<=c:=Xu hle (Nat.div_mul_le_self _ _);unfold World.shape? at b
 split at b
 next m q s g=>
  cases b;have hlt:=(Array.getElem?_eq_some_iff.1 g).1;have p:Row (hpW W) (a.block+16) (m.toList.map (lW W.heap.size)) 0:=⟨_,_,by rw [wo,g];rfl,Tr.sized_ofList _,fun j=>Tr.get_ofList _ j⟩;exact⟨f,hlt,_,p.load (o:=a.off) (n:=0) (by simpa using d)⟩
 . cases b
section
variable{H:Type}{enc:TypeId×Value->H}{P:Program}
theorem rU{s e:TypeId}{k:IntKind}{c:Value}{B:Nat->Bool}{x:DataW H×List MemPlace}(hs:P.underlying s=some (.slice e))(D:P.underlying e=some (.int k))(E:P.cellsOf e=1)(b:Cell.okWide P W .any base s c)(h:DataW.trod enc P W 0 B C n s [c]=some x): ∃d:List Int,SlW (hpW W) k (lW W.heap.size c) d/\(∀z∈d,(Lit.int k z).wf=true)/\d.length<=9223372036854775807:=by
 rcases Go.ChangeShapes.open_ints hs D E h with⟨v,_⟩|⟨a,g,o,d,v,I,y,J,p,_,j,w⟩
 . cases v;exact⟨[],.inl ⟨rfl,rfl⟩,fun z p=>(by cases p),by simp⟩
 . cases v;unfold Cell.okWide at b;rw [hs]at b;simp only [Cell.ok,hs]at b;obtain⟨A,q,r⟩:=b;obtain⟨t,hlt,F⟩:=has_W r;have m:g<=d.length:=(by rw [p];split<;>omega);refine⟨d.take g,.inr ⟨a.block+16,a.off,o,?_,?_,?_⟩,fun z p=>w z (List.mem_of_mem_take p),by
    have:(o:Int)<=9223372036854775807:=q;rw [Xy];omega⟩
   . rw [Xy,YR m];simp only [lW,if_pos y,if_pos (And.intro t hlt)]
   . rw [Xy,YR m];exact y
   . rw [Xy,YR m,Xk];rw [load_join (f:=fun i=>.int k (d.getD i 0)) F (fun i u=>load_W t (j i (by omega)))];congr 1;have G: ∀l:List Int,l.flatMap (encI k)=l.map fun x=>.int k x:=fun l=>(by rw [YY,List.map_eq_flatMap,YY];rfl);rw [G];refine List.ext_getElem? fun i=>?_;rw [Yt,Yt,List.getElem?_take];by_cases u:i<g
     . rw [if_pos u,YC u,XQ (show i<d.length by omega)];simp [zO,show i<d.length by omega]
     . rw [if_neg u,Yh (by simpa using u)];rfl
theorem open_sl2{t s e:TypeId}{k:IntKind}{j m:Field}{B:Nat->Bool}{d:DataW H}{p:List MemPlace}(r:P.underlying t=some (.struct #[j,m]))(D:j.offset=0)(o1:m.offset=1)(E:j.type=s)(t1:m.type=s)(hs:P.underlying s=some (.slice e))(u:P.underlying e=some (.int k))(w:P.cellsOf e=1)(f:P.cellsOf s=1)(o:P.cellsOf t=2)(q:P.cellTypes P.depth t=some [s,s])(a:Value.okWide P W .any base t v)(h:DataW.Trod enc P W 0 B C t v d p):
 ∃(c0 g:Value) (xs ys:List Int),v=.agg #[c0,g]/\SlW (hpW W) k (lW W.heap.size c0) xs/\SlW (hpW W) k (lW W.heap.size g) ys/\(∀z∈xs,(Lit.int k z).wf=true)/\ ∀z∈ys,(Lit.int k z).wf=true:=by
 unfold Value.okWide at a;rw [r]at a;obtain⟨F,rfl,c,N,i,_,b⟩:=a;rw [q]at i;cases i;rw [o]at c;obtain⟨l⟩:=F;simp only [List.size_toArray]at c;obtain⟨c0,g,rfl⟩:=len2 c;obtain⟨x,h⟩:=h;obtain⟨O,Q,n,_,_,y,A⟩:=Go.ChangeShapes.trod_struct2 r h;rw [D,E,f]at y;rw [o1,t1,f]at A;obtain⟨R,G,I⟩:=b 0 c0 rfl;obtain⟨S,i,J⟩:=b 1 g rfl;cases G;cases i;obtain⟨xs,K,L,_⟩:=rU hs u w I y;obtain⟨ys,M,wy,_⟩:=rU hs u w J A;exact⟨c0,g,xs,ys,rfl,K,M,L,wy⟩
end
end
section
open Go.ChangeShapes Go.WideShapes Go.RowKit
section
variable{H:Type}{enc:TypeId×Value->H}{P:Program}
theorem len5j{f:Type}{l:List f}(h:l.length=5): ∃a b c d e,l=[a,b,c,d,e]:=by
 match l,h with
 | [a,b,c,d,e],_=>exact⟨a,b,c,d,e,rfl⟩
theorem wf64{z:Int}(h:(Lit.int .i64 z).wf=true):-9223372036854775808<=z/\z<=9223372036854775807:=by unfold Lit.wf at h;simp only [Bool.and_eq_true,decide_eq_true_eq]at h;exact h
theorem open_d28{t f k D E m:TypeId}{s w y A C:Field}{sp:Nat->Bool}{hd:Bool}{d:DataW H}{p:List MemPlace}(R:P.underlying t=some (.struct #[s,w,y,A,C]))(o0:s.offset=0)(o1:w.offset=1)(o2:y.offset=2)(o3:A.offset=3)(o4:C.offset=4)(t0:s.type=f)(t1:w.type=f)(t2:y.type=f)(t3:A.type=m)(t4:C.type=k)(F:P.underlying f=some (.slice D))(G:P.underlying m=some (.int .u8))(I:P.underlying k=some (.slice E))(J:P.underlying D=some (.int .u8))(g4:P.underlying E=some (.int .i64))(c0:P.cellsOf D=1)(c4:P.cellsOf E=1)(K:P.cellsOf f=1)(d3:P.cellsOf m=1)(d4:P.cellsOf k=1)(L:P.cellsOf t=5)(Q:P.cellTypes P.depth t=some [f,f,f,m,k])(g:Value.okWide P W .any base t v)(h:DataW.Trod enc P W 0 sp hd t v d p):
 ∃ (a b c e:Value) (x:Int) (B O M N:List Int),v=.agg #[a,b,c,.int .u8 x,e]/\SlW (hpW W) .u8 (lW W.heap.size a) B/\SlW (hpW W) .u8 (lW W.heap.size b) O/\SlW (hpW W) .u8 (lW W.heap.size c) M/\SlW (hpW W) .i64 (lW W.heap.size e) N/\
   (∀z∈O,(Lit.int .u8 z).wf=true)/\(∀z∈M,(Lit.int .u8 z).wf=true)/\(∀z∈N,(Lit.int .i64 z).wf=true)/\(Lit.int .u8 x).wf=true:=by
 unfold Value.okWide at g;rw [R]at g;obtain⟨cs,rfl,i,ts,S,_,o⟩:=g;rw [Q]at S;cases S;rw [L]at i;obtain⟨l⟩:=cs;simp only [List.size_toArray]at i;obtain⟨a,b,c,x,e,rfl⟩:=len5j i;obtain⟨T,h⟩:=h;obtain⟨xs,n,_,_,hl,q,hf⟩:=DataW.trod_struct R h;obtain⟨y0,y1,y2,y3,y4,rfl⟩:=len5j (by rw [q];rfl:xs.length=5);have U:=hf 0 s rfl;have V:=hf 1 w rfl;have X:=hf 2 y rfl;have Y:=hf 3 A rfl;have Z:=hf 4 C rfl;rw [o0,t0,K]at U;rw [o1,t1,K]at V;rw [o2,t2,K]at X;rw [o3,t3,d3]at Y;rw [o4,t4,d4]at Z;have r: ∀(j:Nat) t v,[f,f,f,m,k][j%5]? =some t->[a,b,c,x,e][j]? =some v->Cell.okWide P W .any base t v:=fun j t v h1 h2=>by obtain⟨u,G,I⟩:=o j v (by simpa using h2);obtain rfl:t=u:=Option.some.inj (h1.symm.trans G);exact I
 obtain⟨B,hB,_,_⟩:=rU F J c0 (r 0 f a rfl rfl) U;obtain⟨O,hO,wO,_⟩:=rU F J c0 (r 1 f b rfl rfl) V;obtain⟨M,hM,wM,_⟩:=rU F J c0 (r 2 f c rfl rfl) X;obtain⟨N,hN,wN,_⟩:=rU I g4 c4 (r 4 k e rfl rfl) Z;obtain⟨u,e2,_,wu⟩:=DataW.trod_int G Y;cases e2;exact⟨a,b,c,e,u,B,O,M,N,rfl,hB,hO,hM,hN,wO,wM,wN,wu⟩
end
end
section
open Go.ChangeShapes Go.WideShapes Go.RowKit
end
end Go.Ab

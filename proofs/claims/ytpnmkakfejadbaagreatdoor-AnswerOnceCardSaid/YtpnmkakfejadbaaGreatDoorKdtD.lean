/- Nets, cells, flags: what the functions do (part 4). -/
import Derived.Test.YtpnmkakfejadbaaGreatDoorKdtC
import Derived.ChangeSlices
import Derived.ChangeArms
import Derived.ChangeSame
open Go.Ab.Tryz
open List renaming take_succ_cons->zM,length_take->Xa,drop_zero->Xb,take_zero->Xc,flatMap_eq_foldl->Xf
open Nat renaming lt_of_lt_of_le->zO,min_eq_left->Xd,le_refl->Xe,zero_le->Xh
open Bool renaming and_true->Xg
set_option maxHeartbeats 4000000
set_option linter.defProp false
set_option linter.unusedVariables false
set_option linter.unusedSimpArgs false
namespace Go.Ab
variable{v:Value}
variable{k:IntKind}
variable{base d n:Nat}
variable{P:Program}
variable{W:World}
variable{C:Nat->Bool}
variable{D:Bool}
variable{p:List MemPlace}
open Go.Proofs
set_option maxRecDepth 10000
theorem v8{g f:Hp}(h: ∀c,m9 v=some (.blk c)->leaves g f c=true){k:Nat}{d:List (Nat×Tch)}(i:cP k d=none):iS (cP k (gG k d (m9 v))) (some (.run g f))=true:=by
 cases e:m9 v with
 |none=>rw [show gG k d none=d from rfl,i];rfl| some t=>
   cases t with
   |blk c=>rw [show gG k d (some (.blk c))=(k,.blk c)::d from rfl,aK];exact h c e| run a b=>
     unfold m9 at e
     split at e<;>cases e
theorem xN{h0:Hp}(ok:OZ h0){vB vO vM vN:Value}{Y f t:Nat}{a:Int}{B O ms ns:List Int}(hB:SlW h0 .u8 vB B)(hO:SlW h0 .u8 vO O)(cO: ∀x∈O,0<=x/\x<=255)(hM:SlW h0 .u8 vM ms)(a5: ∀x∈ms,0<=x/\x<=255)(hN:SlW h0 .i64 vN ns)(cN: ∀x∈ns,-9223372036854775808<=x/\x<=9223372036854775807)(hh:Y<=255)(hf:f<=255)(ht:t<=255):aQ abEnv 6 [.agg ⟨[vB,vO,vM,.int .u8 (Y:Nat),vN,.int .u8 (f:Nat),.int .u8 (t:Nat),.int .i8 a]⟩] h0 (.bool true):=by
 have S:=Si ok;have fB:=hB.sl.fl;have fO:=hO.sl.fl;have fM:=hM.sl.fl;have fN:=hN.sl.fl;have bn:=hU;refine erA (n:=103) (rs:=[.tmp 2]) Tryz.e6 ?_;simp only [BZ,seval];refine ab (aW (by intro x e;cases e)) S ?_;clear S;intro h Z S bk;simp only [ac]at S;simp only [BZ];refine ae (Fj S.ok) ?_;intro h g;replace S:=S.call g;simp only [BZ,Xb,zM,Xc,S.lds (b:=Z) (o:=0) (n:=8) m0 (lbt rfl),seval];refine step_ret (made32_ok S.ok (hB.grN S.gr) (hO.grN S.gr) cO (hM.grN S.gr) a5 (hN.grN S.gr) cN hh) ?_;rintro _ hm ⟨g,b,I,rfl,P,_,_⟩;replace S:=S.call g;obtain⟨l,R,Q,cf,Bt,Mc,ip,_,_⟩:=P.opened;have G:=ip.good;obtain⟨bp,nb,pt,pc,pf,T,K,t1,t2,c1,c2⟩:=id ip.ex;have n1:=G.n1;have n2:=G.n2;have l0:=T.load1 (o:=0) rfl;have g0:=S.gr;have R0:=S.row (b:=Z) m0;have a6:=S.ok;clear S;have S:=Si a6;simp only [BZ,seval];refine ae (yw S.ok (P.at.gr S.gr)) ?_;intro h g;replace S:=S.call g;simp only [BZ,S.gr.load l0,seval];refine ae (bC S.ok (K.gr S.gr)) ?_;intro h g;replace S:=S.call g;simp only [BZ,seval];refine step_ret (ways_ok S.ok (P.gr S.gr)) ?_;rintro vW h ⟨g,sW,_⟩;replace S:=S.call g;have fW:=sW.fl;have a7:=S.ok;have L:=S.gr;clear S;rename Hp=>hr;replace P:=P.gr L;replace ip:=ip.gr L;replace T:=T.gr L;replace R0:=R0.gr L;replace K:=K.gr L;replace g0:=g0.trans L;have hs:f%I.g.nodes<I.g.nodes:=Nat.mod_lt _ (by omega);have hw:t%I.g.nodes<I.g.nodes:=Nat.mod_lt _ (by omega);have ad:=R0.load (o:=0) (n:=8) (Xe 8);simp only [Xb,zM,Xc]at ad;have M:=T.load1 (o:=0) rfl;clear L l0;simp only [BZ,seval];obtain⟨W,eW⟩: ∃W,(List.range 6).filter (oq I.T.isSome I.C.isSome)=W:=⟨_,rfl⟩;have a8: ∀x∈W,x<6/\oq I.T.isSome I.C.isSome x=true:=fun x hx=>by rw [<-eW]at hx;exact⟨List.mem_range.1 (List.mem_filter.1 hx).1,(List.mem_filter.1 hx).2⟩
 have bo:W.length<=6:=by rw [<-eW];exact Nat.le_trans (List.length_filter_le _ _) (by rw [List.length_range];exact Xe _)
 rw [eW]at sW;clear eW;refine aX (fun(i:Nat) r h=>i<=W.length/\Gr hr h/\r 1=ptrTo Z/\r 3=ptrTo b/\r 4=.int .i64 (I.g.nodes:Nat)/\r 5=vW/\r 6=.int .i64 (i:Nat)) (fun i=>W.length-i) ?_ 0 _ _ ⟨Xh _,Gr.refl a7,by simp [aB,ah]⟩;intro i ih r h ⟨hi,gi,z,p,y,u,v⟩;have wi:am .i64 ((i:Int)+1)=((i+1:Nat):Int):=by rw [wrap64]<;>omega
 by_cases hlt:i<W.length;rotate_left
 . simp only [BZ,aa,u,v,sW.lenq,aE,hlt,seval];exact g0.trans gi
 obtain⟨ba,af⟩:=a8 _ (List.getElem_mem hlt);obtain⟨bb,bc,ai,C⟩:=(sW.gr gi).ix (kd:=.i64) dr hlt;replace C:h.load bb bc 1=some [.int .i64 (W[i]:Nat)]:=C;generalize W[i]=k at ba af C;have S:=Si gi.ok;simp only [BZ,u,v,sW.lenq,aE,hlt,seval];refine ao (jG (ord:=[7,0,1,2,3,4,5,6,8]) rfl rfl (by simp only [dW,ou,eX,List.getElem?_cons_zero,List.getElem?_cons_succ,List.map_toArray,List.map_cons,List.map_nil,cond_true,cond_false,seval];exact rfl)) (q:=1) (ps:=[(0,7)]) (by kernel_rfl) ?_;simp only [BZ,cls,seval];refine cV au S ?_;clear S;intro h b7 S bl ak;have k7:=S.key_lt (b:=b7) (by simp [keys]);have kw:=aV S.ok (S.gr.load C);have al:=(R0.gr (gi.trans S.gr)).lt S.ok;simp only [BZ,cls,z,y,u,v,S.gr.load (gi.load ad),ai,S.gr.load C,seval];refine bj (queryI_ok S.ok hf ht n1 (by omega) fB fO fM aM fN) ?_;intro h' g;have v1:=ag g al;have vw:=ag g kw;have v7:=ag g k7;replace S:=S.call g;simp only [BZ,cls,seval];refine cJ (stA S (i:=0) Tryz.t7.2.1) ?_;clear S;rintro h ⟨S,mo⟩;clear mo;simp only [LC,ac,lay,List.take,List.drop,seval]at S;simp only [BZ,p,seval];refine⟨by simp only [aI,aO,aF,aK,aH,ne_eq,not_false_eq_true,aU,aY,aN,aJ,bw,bN,aD,Xg,z,p,y,u,v,ah,cL,<-ak,aq v1,an v1,aq vw,an vw,aq v7,an v7,seval],?_⟩;generalize am .i64 a=a' at S;generalize f%I.g.nodes=s at*
 generalize t%I.g.nodes=w at*
 clear al kw k7;simp only [BZ,Xb,zM,Xc,S.lds (b:=b7) (o:=0) (n:=4) m0 (lbt rfl),seval];have gx:=gi.trans S.gr;refine step_ret (askK_ok S.ok (P.gr gx) (ip.gr gx)) ?_;rintro _ h ⟨g,c,d,vA,bd,vE,rfl,fA,ax,fE,oA⟩;replace S:=S.call g;have hA:mI I.g.nodes I.T.isSome I.C.isSome (k:Nat) (s:Nat) (w:Nat)=0:=by unfold mI;rw [if_neg (by omega),if_neg (by omega),if_neg (by omega)];exact if_pos af
 have hX:WalkX h I.g s w c d vA bd vE:=by
  rcases oA with⟨U,rfl,rfl,rfl,rfl,rfl⟩|⟨U,bq,oA⟩
  . obtain rfl:s=w:=(by rcases U with h|h;exact absurd hA h;omega);exact⟨.inr ⟨hA,0,[],rfl,by omega,.inl ⟨rfl,rfl⟩,bH,Xh _,.nil⟩,[],.inl ⟨rfl,rfl⟩,EvK.nil⟩
  . exact qJ.walk G hs hw oA
 clear oA;generalize ay:Code.region 13 _ _=br;simp only [BZ,ow,seval];have R7:=S.row (b:=b7) m0;have E:=gi.trans S.gr;have be:=S.ok;clear S gx;rename Hp=>hq;have S:=Si be;refine ab au S ?_;clear S;intro h b8 S bm;simp only [BZ,seval];refine az (stA S (i:=0) t43.2.1 (by simp only [ac,List.all_cons,List.all_nil,fA.2.1,ax.2.1,Xg];rfl)) ?_;clear S;rintro h ⟨S,_⟩;simp only [LC,ac,lay,List.take,List.drop,seval]at S;have R8:=S.row (b:=b8) m0;replace R7:=R7.gr S.gr;replace E:=E.trans S.gr;have gq:=S.gr;have bf:=S.ok;clear S;rename Hp=>hz;obtain⟨hX,xs,V,A⟩:=hX;replace V:=V.gr gq;have SZ:=Si bf;have aL:=R7.load (o:=0) (n:=4) (Xe 4);have a0:=R8.load (o:=0) (n:=4) (Xe 4);simp only [Xb,zM,Xc]at aL a0;have a1:=R8.load1 (o:=0) rfl;simp only [BZ,seval];subst ay;refine xO (n:=103) (d:=[]) (rc:=none) (J:=fun m h'=>Gr hz h'/\(m 1=ptrTo Z/\m 3=ptrTo b/\m 4=.int .i64 (I.g.nodes:Nat)/\m 5=vW/\m 6=.int .i64 (i:Nat))/\m 9=vE/\m 80=.bool false) ?_ ?_
 . have S:=SZ;simp only [BZ,p,E.load M,seval];refine ae (BT S.ok (K.gr (E.trans S.gr)) (V.gr S.gr) A.len A.ok A.nd) ?_;intro h g;replace S:=S.call g;simp only [BZ,p,(E.trans S.gr).load M,seval];refine ae (BG S.ok (K.gr (E.trans S.gr)) (V.gr S.gr) A.len A.ok A.hd) ?_;intro h g;replace S:=S.call g;simp only [BZ,p,S.gr.load aL,S.gr.load a0,seval];rcases hX with⟨rfl,rfl,rfl,rfl⟩|⟨rfl,D,bs,rfl,bt,sA,_,li,hp⟩
   . refine ae (D9 (c:=20) S.ok aM aM aM aM (by decide)) ?_;intro h g;replace S:=S.call g;simp only [BZ,(by decide: ¬(20:Int)=0),S.gr.load a1,seval];exact dL ⟨S.gr,(by simp [aB,z,ah,p,y,u,v]),by simp [aB]⟩
   . refine ae (Ef S.ok G ((T.gr E).gr S.gr) ((K.gr E).gr S.gr) aM aM hs ((sA.gr gq).gr S.gr) ax li hp) ?_;intro h g;replace S:=S.call g;simp only [BZ,S.gr.load a1,seval];exact dL ⟨S.gr,(by simp [aB,z,ah,p,y,u,v]),by simp [aB]⟩
 clear z p y u v;rintro m h ⟨gj,⟨z,p,y,u,v⟩,N,a2⟩;simp only [BZ,a2,seval];refine aX (fun(j:Nat) r h=>j<=2/\Gr hz h/\r 1=ptrTo Z/\r 3=ptrTo b/\r 4=.int .i64 (I.g.nodes:Nat)/\r 5=vW/\r 6=.int .i64 (i:Nat)/\r 9=vE/\r 10=.int .i64 (j:Nat)) (fun j=>2-j) ?_ 0 _ _ ⟨Xh _,gj,by simp [aB,z,ah,p,y,u,v,N]⟩;clear z p y u v N a2 gj;intro j bh r h ⟨hj,gj,z,p,y,u,v,N,r10⟩;have wj:am .i64 ((j:Int)+1)=((j+1:Nat):Int):=by rw [wrap64]<;>omega
 by_cases bu:j<2;rotate_left
 . have c2:((j:Int)<2)=False:=eq_false (by omega);simp only [BZ,aa,v,r10,c2,wi,seval];exact ih (i+1) _ _ (by omega) ⟨by omega,E.trans gj,by simp [aB,z,ah,p,y,u]⟩
 have c2:((j:Int)<2)=True:=eq_true (by omega);obtain⟨X,a3⟩: ∃X:Bool,((j:Nat):Int)=((dk X:Nat):Int):=by
  rcases(by omega:j=0\/j=1)with rfl|rfl
  . exact⟨false,rfl⟩
  . exact⟨true,rfl⟩
 have bv:(idsE 0 X xs).length<=I.g.nodes:=ids_le A fun e U hk=>by
  rcases A.ok e U with⟨_,x⟩|⟨x,_⟩
  . exact x
  . omega
 have bx:(idsE 1 X xs).length<=I.g.arcs.length:=ids_le A fun e U hk=>by
  rcases A.ok e U with⟨x,_⟩|⟨_,x,_⟩
  . omega
  . exact x
 have e1: ¬(I.g.nodes:Int)<((idsE 0 X xs).length:Int):=by omega
 have e2: ¬(I.g.arcs.length:Int)<((idsE 1 X xs).length:Int):=by omega
 have gk:=E.trans gj;have zb:=(T.gr gk).lt gj.ok;simp only [BZ,r10,c2,seval];refine ao (av rfl) (q:=0) (ps:=[(10,15),(9,14)]) (by kernel_rfl) ?_;simp only [BZ,cls,N,r10,a3,seval];refine bO (BE gj.ok (V.gr gj) A.len) ?_;rintro a4 h1 ⟨F,sa,_⟩;have va:=ag F zb;simp only [BZ,cls,y,N,r10,a3,sa.lenq,e1,seval];refine bO (Ak F.ok ((V.gr gj).gr F) A.len) ?_;rintro bi h2 ⟨H,sb,_⟩;have vb:=ag H (zO zb F.n);have la: ∀c,m9 a4=some (.blk c)->leaves h1 h2 c=true:=fun c hc=>ag H (ye F.ok sa hc);simp only [BZ,cls,p,sb.lenq,((gk.trans F).trans H).load M,seval];refine bj (iW H.ok (K.gr ((gk.trans F).trans H))) ?_;intro h3 gc;have vc:=ag gc (zO (zO zb F.n) H.n);have lc: ∀c,m9 bi=some (.blk c)->leaves h2 h3 c=true:=fun c hc=>ag gc (ye H.ok sb hc);have ld: ∀c,m9 a4=some (.blk c)->leaves h2 h3 c=true:=fun c hc=>ag gc (zO (ye F.ok sa hc) H.n);simp only [BZ,cls,r10,e2,seval];refine⟨by simp only [aI,aO,aF,aK,aH,ne_eq,not_false_eq_true,aU,aY,aN,aJ,bw,bN,aD,Xg,z,p,y,u,v,N,r10,ah,cL,aq va,an va,aq vb,an vb,aq vc,an vc,note_lenV,yz la,yz lc,yz ld,v8 la,v8 lc,v8 ld,jC,seval],?_⟩;simp only [wj];exact bh (j+1) _ _ (by omega) ⟨by omega,(((gj.trans F).trans H).trans gc),by simp [aB,z,ah,p,y,u,v,N]⟩
section
open Go.ChangeShapes Go.WideShapes Go.RowKit
theorem rowAt_le{b:TypeId->Bool}{e:TypeId}{a off:Nat}(h:rowAt P b d e a off n=true):off<=a*P.cellsOf e:=by
 cases d with
 |zero=>cases h
 | succ d=>
   unfold rowAt at h;simp only []at h
   split at h
   . cases h
   . rename_i i;have c:0<P.cellsOf e:=(by omega);have f:=Nat.div_add_mod off (P.cellsOf e);simp only [Bool.or_eq_true,Bool.and_eq_true,beq_iff_eq,decide_eq_true_eq]at h;rcases h with⟨⟨g,j⟩,_⟩|⟨g,_⟩
     . have:P.cellsOf e*(off/P.cellsOf e)<=P.cellsOf e*a:=Nat.mul_le_mul_left _ (by omega);rw [Nat.mul_comm a];omega
     . have:P.cellsOf e*(off/P.cellsOf e+1)<=P.cellsOf e*a:=Nat.mul_le_mul_left _ (by omega);have hlt:=Nat.mod_lt off c;rw [Nat.mul_add,Nat.mul_one]at this;rw [Nat.mul_comm a];omega
theorem liesAt_le: ∀{e:TypeId} {a off:Nat} {u:TypeId} {n:Nat},liesAt P d e a off u n=true->off<=a*P.cellsOf e:=by
 induction d with
 |zero=>intro e a off u n h;cases h
 | succ d b=>
   intro e a off u n h;unfold liesAt at h;rw [Bool.or_eq_true]at h;rcases h with h|h
   . exact rowAt_le h
   . split at h
     . exact b h
     . cases h
theorem has_W{r:_root_.Go.Reach}{a:Addr}{e:TypeId}(h:W.has P r base a e n):a.spot=none/\a.block<W.heap.size/\ ∃l,(hpW W).load (a.block+16) a.off 0=some l:=by
 obtain⟨_,f,i,c,b,k⟩:=h;have hle:=liesAt_le k;have d:a.off<=c:=Nat.le_trans hle (Nat.div_mul_le_self _ _);unfold World.shape? at b
 split at b
 next m q s g=>
  cases b;have hlt:=(Array.getElem?_eq_some_iff.1 g).1;have p:Row (hpW W) (a.block+16) (m.toList.map (mi W.heap.size)) 0:=⟨_,_,by rw [we,g];rfl,Tr.sized_ofList _,fun j=>Tr.get_ofList _ j⟩;exact⟨f,hlt,_,p.load (o:=a.off) (n:=0) (by simpa using d)⟩
 . cases b
section
variable{H:Type}{enc:TypeId×Value->H}{P:Program}
theorem rj{s e:TypeId}{c:Value}{x:DataW H×List MemPlace}(v:P.underlying s=some (.slice e))(E:P.underlying e=some (.int k))(F:P.cellsOf e=1)(b:Cell.okWide P W .any base s c)(h:DataW.trod enc P W 0 C D n s [c]=some x): ∃d:List Int,SlW (hpW W) k (mi W.heap.size c) d/\(∀z∈d,(Lit.int k z).wf=true)/\d.length<=9223372036854775807:=by
 rcases Go.ChangeShapes.open_ints v E F h with⟨w,_⟩|⟨a,g,o,d,w,I,A,J,p,_,j,y⟩
 . cases w;exact⟨[],.inl ⟨rfl,rfl⟩,fun z p=>(by cases p),by simp⟩
 . cases w;unfold Cell.okWide at b;rw [v]at b;simp only [Cell.ok,v]at b;obtain⟨B,q,r⟩:=b;obtain⟨t,hlt,G⟩:=has_W r;have m:g<=d.length:=(by rw [p];split<;>omega);refine⟨d.take g,.inr ⟨a.block+16,a.off,o,?_,?_,?_⟩,fun z p=>y z (List.mem_of_mem_take p),by
    have:(o:Int)<=9223372036854775807:=q;rw [Xa];omega⟩
   . rw [Xa,Xd m];simp only [mi,if_pos A,if_pos (And.intro t hlt)]
   . rw [Xa,Xd m];exact A
   . rw [Xa,Xd m,Nat.mul_one];rw [load_join (f:=fun i=>.int k (d.getD i 0)) G (fun i u=>load_W t (j i (by omega)))];congr 1;have e4: ∀l:List Int,l.flatMap (encI k)=l.map fun x=>.int k x:=fun l=>(by rw [Xf,List.map_eq_flatMap,Xf];rfl);rw [e4];refine List.ext_getElem? fun i=>?_;rw [List.getElem?_map,List.getElem?_map,List.getElem?_take];by_cases u:i<g
     . rw [if_pos u,List.getElem?_range u,List.getElem?_eq_getElem (show i<d.length by omega)];simp [List.getD_eq_getElem?_getD,show i<d.length by omega]
     . rw [if_neg u,List.getElem?_eq_none (by simpa using u)];rfl
theorem open_sl2{t s e:TypeId}{j m:Field}{d:DataW H}(r:P.underlying t=some (.struct #[j,m]))(E:j.offset=0)(o1:m.offset=1)(F:j.type=s)(t1:m.type=s)(u:P.underlying s=some (.slice e))(w:P.underlying e=some (.int k))(x:P.cellsOf e=1)(f:P.cellsOf s=1)(o:P.cellsOf t=2)(q:P.cellTypes P.depth t=some [s,s])(a:Value.okWide P W .any base t v)(h:DataW.Trod enc P W 0 C D t v d p):
 ∃(c0 g:Value) (xs ys:List Int),v=.agg #[c0,g]/\SlW (hpW W) k (mi W.heap.size c0) xs/\SlW (hpW W) k (mi W.heap.size g) ys/\(∀z∈xs,(Lit.int k z).wf=true)/\ ∀z∈ys,(Lit.int k z).wf=true:=by
 unfold Value.okWide at a;rw [r]at a;obtain⟨G,rfl,c,O,i,_,b⟩:=a;rw [q]at i;cases i;rw [o]at c;obtain⟨l⟩:=G;simp only [List.size_toArray]at c;obtain⟨c0,g,rfl⟩:=len2 c;obtain⟨y,h⟩:=h;obtain⟨Q,R,n,_,_,A,B⟩:=Go.ChangeShapes.trod_struct2 r h;rw [E,F,f]at A;rw [o1,t1,f]at B;obtain⟨S,I,J⟩:=b 0 c0 rfl;obtain⟨T,i,K⟩:=b 1 g rfl;cases I;cases i;obtain⟨xs,L,M,_⟩:=rj u w x J A;obtain⟨ys,N,wy,_⟩:=rj u w x K B;exact⟨c0,g,xs,ys,rfl,L,N,M,wy⟩
end
end
section
open Go.ChangeShapes Go.WideShapes Go.RowKit
section
variable{H:Type}{enc:TypeId×Value->H}{P:Program}
theorem wf64{z:Int}(h:(Lit.int .i64 z).wf=true):-9223372036854775808<=z/\z<=9223372036854775807:=by unfold Lit.wf at h;simp only [Bool.and_eq_true,decide_eq_true_eq]at h;exact h
end
end
section
open Go.ChangeShapes Go.WideShapes Go.RowKit
section
variable{H:Type}{enc:TypeId×Value->H}{P:Program}
theorem len8k{j:Type}{l:List j}(h:l.length=8): ∃a b c d e f g i,l=[a,b,c,d,e,f,g,i]:=by
 match l,h with
 | [a,b,c,d,e,f,g,i],_=>exact⟨a,b,c,d,e,f,g,i,rfl⟩
theorem open_d32{t f m L e4 g o:TypeId}{C D E F G I J K:Field}{sp:Nat->Bool}{hd:Bool}{d:DataW H}(Z:P.underlying t=some (.struct #[C,D,E,F,G,I,J,K]))(o0:C.offset=0)(o1:D.offset=1)(o2:E.offset=2)(o3:F.offset=3)(o4:G.offset=4)(o5:I.offset=5)(o6:J.offset=6)(o7:K.offset=7)(t0:C.type=f)(t1:D.type=f)(t2:E.type=f)(t3:F.type=g)(t4:G.type=m)(t5:I.type=g)(t6:J.type=g)(t7:K.type=o)(h0:P.underlying f=some (.slice L))(q:P.underlying g=some (.int .u8))(Q:P.underlying m=some (.slice e4))(h7:P.underlying o=some (.int .i8))(R:P.underlying L=some (.int .u8))(g4:P.underlying e4=some (.int .i64))(c0:P.cellsOf L=1)(c4:P.cellsOf e4=1)(S:P.cellsOf f=1)(T:P.cellsOf g=1)(d4:P.cellsOf m=1)(d7:P.cellsOf o=1)(U:P.cellsOf t=8)(V:P.cellTypes P.depth t=some [f,f,f,g,m,g,g,o])(i:Value.okWide P W .any base t v)(h:DataW.Trod enc P W 0 sp hd t v d p):
 ∃ (a b c e:Value) (x y z w:Int) (B O M N:List Int),v=.agg #[a,b,c,.int .u8 x,e,.int .u8 y,.int .u8 z,.int .i8 w]/\SlW (hpW W) .u8 (mi W.heap.size a) B/\SlW (hpW W) .u8 (mi W.heap.size b) O/\SlW (hpW W) .u8 (mi W.heap.size c) M/\SlW (hpW W) .i64 (mi W.heap.size e) N/\
   (∀z∈O,(Lit.int .u8 z).wf=true)/\(∀z∈M,(Lit.int .u8 z).wf=true)/\(∀z∈N,(Lit.int .i64 z).wf=true)/\(Lit.int .u8 x).wf=true/\(Lit.int .u8 y).wf=true/\(Lit.int .u8 z).wf=true:=by
 unfold Value.okWide at i;rw [Z]at i;obtain⟨cs,rfl,k,ts,e1,_,s⟩:=i;rw [V]at e1;cases e1;rw [U]at k;obtain⟨l⟩:=cs;simp only [List.size_toArray]at k;obtain⟨a,b,c,x,e,y,z,w,rfl⟩:=len8k k;obtain⟨ad,h⟩:=h;obtain⟨xs,n,_,_,hl,A,hf⟩:=DataW.trod_struct Z h;obtain⟨y0,y1,y2,y3,y4,y5,y6,y7,rfl⟩:=len8k (by rw [A];rfl:xs.length=8);have q0:=hf 0 C rfl;have q1:=hf 1 D rfl;have q2:=hf 2 E rfl;have q3:=hf 3 F rfl;have q4:=hf 4 G rfl;have q5:=hf 5 I rfl;have q6:=hf 6 J rfl;have q7:=hf 7 K rfl;rw [o0,t0,S]at q0;rw [o1,t1,S]at q1;rw [o2,t2,S]at q2;rw [o3,t3,T]at q3;rw [o4,t4,d4]at q4;rw [o5,t5,T]at q5;rw [o6,t6,T]at q6;rw [o7,t7,d7]at q7;have r: ∀(j:Nat) t v,[f,f,f,g,m,g,g,o][j%8]? =some t->[a,b,c,x,e,y,z,w][j]? =some v->Cell.okWide P W .any base t v:=fun j t v h1 h2=>by obtain⟨u,q,Q⟩:=s j v (by simpa using h2);obtain rfl:t=u:=Option.some.inj (h1.symm.trans q);exact Q
 obtain⟨B,hB,_,_⟩:=rj h0 R c0 (r 0 f a rfl rfl) q0;obtain⟨O,hO,wO,_⟩:=rj h0 R c0 (r 1 f b rfl rfl) q1;obtain⟨M,hM,wM,_⟩:=rj h0 R c0 (r 2 f c rfl rfl) q2;obtain⟨N,hN,wN,_⟩:=rj Q g4 c4 (r 4 m e rfl rfl) q4;obtain⟨u,e2,_,wu⟩:=DataW.trod_int q q3;obtain⟨u5,e5,_,X⟩:=DataW.trod_int q q5;obtain⟨u6,e6,_,Y⟩:=DataW.trod_int q q6;obtain⟨u7,e7,_,_⟩:=DataW.trod_int h7 q7;cases e2;cases e5;cases e6;cases e7;exact⟨a,b,c,e,u,u5,u6,u7,B,O,M,N,rfl,hB,hO,hM,hN,wO,wM,wN,wu,X,Y⟩
end
end
end Go.Ab

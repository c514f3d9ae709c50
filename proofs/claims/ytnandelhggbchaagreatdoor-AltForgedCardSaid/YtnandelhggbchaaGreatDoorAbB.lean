/- A deterministic evaluator of the model's code, and that the model follows it (part 2). -/
import Derived.Test.YtnandelhggbchaaGreatDoorAbA
import Derived.Laws.IdiomCopy
open Array renaming getElem?_toList->zj,toList_map->zp,toList_append->zw,getElem?_modify->zz,toList_modify->zF,range->zI,getElem?_push->zO,ext'->zQ
open List renaming getElem?_append_left->zk,getElem?_eq_getElem->zl,all_eq_true->zn,getElem?_append_right->zu,getElem_mem->zy,length_map->zJ,mem_of_getElem?->zM
open Nat renaming le_refl->zo,zero_add->zC,mul_le_mul_right->zD,add_mul->zH,min->zL,mul_one->zP
open Bool renaming false_eq_true->zq,not_eq_true->zt,and_self->zx,not_false->zG,and_eq_false_iff->zK,beq_comm->zN
set_option maxHeartbeats 400000
set_option linter.defProp false
set_option linter.unusedVariables false
set_option linter.unusedSimpArgs false
namespace Go.Ab
section
variable{E:Env}{P:Program}(ok:EOk E P)
include ok
theorem pop_run{mu:Mu}{ρ g:Operand->Value}(f: ∀x,aq mu (ρ x) (g x)){o:Oper}{v:Value}(h:pop E ρ o.op=some v)(w:World):
 ∃v',(execOp g o).run P w=.ok (.value v') w/\aq mu v v':=by
 have A: ∀l:List Operand,VL mu (l.map ρ) (l.map g):=fun l=>LR.mapSame l f
 unfold execOp
 obtain⟨W,op,I,pos,R,guard⟩:=o
 simp only []at h⊢
 cases op<;>simp only [pop]at h<;>try (cases h;done)
 case move x=>cases h;exact⟨_,rfl,f x⟩
 case assign x=>cases h;exact⟨_,rfl,f x⟩
 case pick c a b=>
  have C:=f c
  cases J:ρ c<;>rw [J]at h C<;>(try simp only []at h)<;>try (cases h;done)
  rename_i t
  cases j:g c<;>rw [j]at C<;>cases C
  cases h
  cases t
  . exact⟨_,by simp [asBool,j],f b⟩
  . exact⟨_,by simp [asBool,j],f a⟩
 case nilCheck x=>
  have C:=f x
  cases J:ρ x<;>rw [J]at h C<;>(try simp only []at h)<;>try (cases h;done)
  . rename_i a
    cases a with
    |none=>simp at h
    | some a=>
      cases h
      cases j:g x<;>rw [j]at C<;>cases C
      rename_i X D
      exact⟨.pointer (some X),by simp only [j];rfl,.ptr D⟩
  . rename_i S a b
    cases S<;>(try simp only []at h)<;>try (cases h;done)
    cases h
    cases j:g x<;>rw [j]at C<;>cases C
    rename_i k n T Y
    exact⟨_,by simp only [j];rfl,.fn k n T Y⟩
 case binOp op t x y u=>
  obtain⟨k,n,T⟩:=binP_run ok h (f x) (f y) w
  exact⟨v,by simp [k,n],T⟩
 case unOp op t x=>
  obtain⟨k,n⟩:=unP_run (P:=P) h (f x) w
  exact⟨v,by simp [k],n⟩
 case makeInterface t x=>
  cases U:E.und t with
  |none=>simp [U]at h
  | some d=>
    simp only [U]at h
    cases d<;>(try simp only []at h)<;>try (cases h;done)
    all_goals (cases h;exact⟨.iface t (g x),by simp [Instr.makeInterface,aN ok U],.iface (f x)⟩)
 case makeFunc S a b=>
  cases S<;>(try simp only []at h)<;>try (cases h;done)
  cases h
  refine⟨_,rfl,.fn (by simp) ?_ (by simp) ?_⟩
  . have:=(A a.toList).2;simpa using this
  . have:=(A b.toList).2;simpa using this
 case slice t x l Z m=>
  obtain⟨v',k,n⟩:=yQ ok h (f x) (OR.map f l) (OR.map f Z) (OR.map f m) w
  exact⟨v',by simp [k],n⟩
 case fieldAddr t x i=>
  obtain⟨v',k,n⟩:=tM ok h (f x) w
  exact⟨v',by simp [k],n⟩
 case field t x i=>
  obtain⟨v',k,n⟩:=yl ok h (f x) w
  exact⟨v',by simp [k],n⟩
 case indexAddr t x i=>
  obtain⟨v',k,n⟩:=tA ok h (f x) (f i) w
  exact⟨v',by simp [k],n⟩
 case index t x i=>
  obtain⟨v',k,n⟩:=yf ok h (f x) (f i) w
  exact⟨v',by simp [k],n⟩
 case extract t i=>
  have C:=f t
  cases J:ρ t<;>rw [J]at h C<;>(try simp only []at h)<;>try (cases h;done)
  cases j:g t<;>rw [j]at C<;>cases C
  rename_i vs K k n
  obtain⟨v',G,L⟩:=LR.get (⟨k,n⟩:VL mu vs.toList K.toList) h
  have:K[i]? =some v':=by rw [<-zj];exact G
  exact⟨v',by simp only [Instr.extract,j,this];rfl,L⟩
 case build t B=>
  have hq:PL mu (B.toList.map fun p=>(p.1,ρ p.2)) (B.toList.map fun p=>(p.1,g p.2)):=LR.mapSame _ fun p=>⟨rfl,f p.2⟩
  obtain⟨v',k,n⟩:=yY ok h hq w
  have e:(B.map fun(x:Nat×Operand)=>(x.1,g x.2))=(B.toList.map fun p=>(p.1,g p.2)).toArray:=by
   apply zQ;simp
  refine⟨v',?_,n⟩
  simp only [Sem.run_bind]
  rw [e,k];rfl
 case typeAssert x s t q=>
  obtain⟨v',k,n⟩:=xN ok (s:=s) h (f x) w
  exact⟨v',by simp [k],n⟩
 case call c=>
  obtain⟨F,r,z⟩:=c
  simp only []at h
  cases F<;>(try simp only []at h)<;>try (cases h;done)
  rename_i b
  cases b<;>(try simp only []at h)<;>try (cases h;done)
  case len=>
   cases Q:z.toList with
   |nil=>simp [Q]at h
   | cons t ts=>
     cases D:r.toList with
     |nil=>simp [Q,D]at h
     | cons x xs=>
       simp only [Q,D]at h
       obtain⟨k,n⟩:=lenP_run ok (ts:=z) (ty:=I) (xs:=r.map g) (by rw [Q];rfl) (by simp [D]) h (f x) w
       exact⟨v,by simp [resolve,invoke,builtin,k],n⟩
  case min=>
   cases D:r.toList.map ρ with
   |nil=>simp [D]at h
   | cons x l=>
     simp only [D]at h
     have M:=A r.toList
     rw [D]at M
     obtain⟨V,l',H,N,O⟩:=M.cons_left
     cases l with
     | nil=>
       simp only [eD]at h
       cases h
       rw [O.nil_left]at H
       exact⟨V,by simp [resolve,invoke,builtin,Builtin.min_,H],N⟩
     | cons y l=>
       obtain⟨v',G,L⟩:=s8 (P:=P) false h N O (by intro c e;subst e;simp [eD]at h) w
       simp only [zq,if_false]at G
       exact⟨v',by simp [resolve,invoke,builtin,Builtin.min_,H,G],L⟩
  case max=>
   cases D:r.toList.map ρ with
   |nil=>simp [D]at h
   | cons x l=>
     simp only [D]at h
     have M:=A r.toList
     rw [D]at M
     obtain⟨V,l',H,N,O⟩:=M.cons_left
     cases l with
     | nil=>
       simp only [eD]at h
       cases h
       rw [O.nil_left]at H
       exact⟨V,by simp [resolve,invoke,builtin,Builtin.max_,H],N⟩
     | cons y l=>
       obtain⟨v',G,L⟩:=s8 (P:=P) true h N O (by intro c e;subst e;simp [eD]at h) w
       simp only [if_true]at G
       exact⟨v',by simp [resolve,invoke,builtin,Builtin.max_,H,G],L⟩
end
end Go.Ab

namespace Go.Ab

theorem wS(l:List Value)(off:Nat)(vs:List Value)(i:Nat)(h:off+vs.length<=l.length):
 (bJ l off vs)[i]? =if off<=i/\i<off+vs.length then vs[i-off]? else l[i]? :=by
 induction vs generalizing l off with
 |nil=>simp only [bJ,List.length_nil];rw [if_neg (by omega)]
 | cons v vs c=>
   simp only [bJ,List.length_cons]at h⊢
   rw [c _ _ (by simp;omega)]
   by_cases a:off+1<=i/\i<off+1+vs.length
   . rw [if_pos a,if_pos (by omega),show i-off=(i-(off+1))+1 by omega];simp
   . rw [if_neg a,List.getElem?_set]
     by_cases b:off=i
     . subst b;rw [if_pos rfl,if_pos (by omega),if_pos (by omega)];simp
     . rw [if_neg b,if_neg (by omega)]

theorem setCells_at(c:Nat)(vs:List Value): ∀(o:Nat) (w:World) (cs:Array Value) (el:TypeId) (b:Nat×Nat),w.heap[c]? =some (.cells cs el b)->
 ∃a,WSet w (w.setCells c o vs) c (.cells a el b)/\a.toList=bJ cs.toList o vs:=by
 induction vs with
 |nil=>intro o w cs el b h;exact⟨cs,⟨rfl,h,fun _ _=>rfl,rfl,rfl,rfl⟩,rfl⟩
 | cons v vs f=>
   intro o w cs el b h
   have g:(w.setCell ⟨c,o,none⟩ v).heap[c]? =some (.cells (cs.setIfInBounds o v) el b):=by
    simp [World.setCell,zz,h]
   obtain⟨a,d,i⟩:=f (o+1) (w.setCell ⟨c,o,none⟩ v) _ el b g
   refine⟨a,⟨?_,d.at_,?_,d.os,d.tape,d.output⟩,?_⟩
   . show((w.setCell ⟨c,o,none⟩ v).setCells c (o+1) vs).heap.size=_
     rw [d.size];simp [World.setCell]
   . intro j e
     show((w.setCell ⟨c,o,none⟩ v).setCells c (o+1) vs).heap[j]? =_
     rw [d.other j e]
     simp only [World.setCell,zz]
     rw [if_neg (Ne.symm e)]
   . rw [i];simp [bJ]

section
variable{E:Env}{P:Program}

theorem ptr_at{mu:Mu}{h:Hp}{w:World}(e:aD mu h w){a f:Addr}(b:dA mu a f){x:Blk}(g:h.get a.block=some x)(j:x≠ .dead):
 ∃c base top o,mu a.block=.blk c base top/\f=⟨c,base+a.off,none⟩/\w.heap[c]? =some o/\jh mu x base top o:=by
 unfold dA at b
 cases d:mu a.block with
 |none=>rw [d]at b;exact b.elim
 |dead=>have:=e.dead _ d;rw [g]at this;cases this;exact absurd rfl j
 | blk c base top=>
   rw [d]at b
   obtain⟨y,o,i,k,l⟩:=e.blk _ c base top d
   rw [g]at i;cases i
   exact⟨c,base,top,o,rfl,b,k,l⟩

theorem rL {mu:Mu} {h:Hp} {w:World} (B:aD mu h w) {a s:Addr} (m:dA mu a s) {n:Nat} {l:List Value} (f:h.load a.block a.off n=some l):
 l.length=n/\ ∃l',VL mu l l'/\(∀(j:Nat) v',l'[j]? =some v'->w.cell? (s.add j)=some v'):=by
 unfold Hp.load at f
 cases p:h.get a.block with
 |none=>simp [p]at f
 | some x=>
   simp only [p]at f
   cases x<;>simp only []at f<;>try (cases f;done)
   rename_i t y el L
   obtain⟨c,d,C,o,M,rfl,D,F⟩:=ptr_at B m p (by intro e;cases e)
   obtain⟨G,H,N,rfl,q⟩:=F
   rw [dj]at f
   by_cases z:a.off+n<=y
   . simp only [z,decide_true,cond_true]at f
     obtain⟨r,I⟩:=Tr.slice_spec f
     refine⟨r,(List.range n).map (fun j=>G.getD (d+(a.off+j)) default),?_,?_⟩
     . refine⟨by simp [r],fun i v v' g b=>?_⟩
       have A:i<n:=by rw [<-r];exact(List.getElem?_eq_some_iff.1 g).1
       have:=I i A
       rw [g]at this
       obtain⟨u,k,J⟩:=q.get _ _ this
       simp [A]at b
       rw [<-b,k];exact J
     . intro j v' b
       have K:j<n:=by
        have:=(List.getElem?_eq_some_iff.1 b).1;simpa using this
       simp [K]at b
       obtain⟨v,g⟩:=Tr.get_some q.sized (show a.off+j<y by omega)
       obtain⟨u,k,_⟩:=q.get _ _ g
       rw [k]at b
       rw [j7 _ _ rfl]
       simp only [World.cell?,D]
       rw [show d+a.off+j=d+(a.off+j) by omega]
       simp [k,<-b]
   . simp [z]at f

theorem pS {mu:Mu} {h F:Hp} {w:World} (M:aD mu h w) {a N:Addr} (G:dA mu a N) {l l':List Value} (d:h.store a.block a.off l=some F) (H:VL mu l l'):
 ∃w',(storeCells N l').run P w=.ok () w'/\aD mu F w'/\Ext mu h w mu F w':=by
 unfold Hp.store at d
 cases D:h.get a.block with
 |none=>simp [D]at d
 | some x =>
   simp only [D]at d
   cases x<;>simp only []at d<;>try (cases d;done)
   rename_i t O el Q
   obtain⟨c,b,U,o,V,rfl,I,W⟩:=ptr_at M G D (by intro e;cases e)
   obtain⟨n,u,J,rfl,p⟩:=W
   rw [dj,a9]at d
   by_cases R:a.off+l.length<=O/\Q≠0/\l.all iw=true
   . obtain⟨y,f,q⟩:=R
     simp only [y,f,q,decide_true,decide_false,zG,zx,cond_true]at d
     cases d
     have z:=H.1
     have r:=p.fits
     have g:=p.whole
     obtain⟨k,X,K⟩:=setCells_at c l' (b+a.off) w n u J I
     have A: ∀v∈l',v.oneCell'=true:=by
      intro v s
      obtain⟨i,L⟩:=List.mem_iff_getElem?.1 s
      have B:i<l.length:=by rw [z];exact(List.getElem?_eq_some_iff.1 L).1
      have:=H.2 i _ v (zl B) L
      refine this.flat ?_
      simp only [zn]at q
      exact q _ (zy B)
     have m:=run_storeCells_cells (P:=P) c (b+a.off) l' 0 w (fun j Y=>by
      simp only [World.cell?,I]
      simp
      omega) (fun j Y=>by
      simp only [World.frozen?,I]
      have:=p.free f (b+a.off+0+j) (by omega)
      simp only [zK,decide_eq_false_iff_not]
      by_cases S:J.1<=b+a.off+0+j
      . right;exact fun Z=>this ⟨S,Z⟩
      . left;exact S) A
     rw [Nat.add_zero]at m
     refine⟨_,m,?_⟩
     refine rG M V ?_ X ?_
     . intro t' aa T e;rw [D]at e;cases e;exact f rfl
     . refine⟨k,u,J,rfl,?_,r,Tr.sized_setAll _ _ p.sized,?_,?_⟩
       . have:k.toList.length=n.toList.length:=by rw [K,nC]
         simpa [g]using this
       . intro i v s
         rw [Tr.get_setAll _ _ _ _ p.sized y]at s
         rw [<-zj,K,wS _ _ _ _ (show b+a.off+l'.length<=n.toList.length by have:n.toList.length=n.size:=rfl;omega)]
         by_cases C:a.off<=i/\i<a.off+l.length
         . rw [if_pos C]at s
           rw [if_pos (by omega),show b+i-(b+a.off)=i-a.off by omega]
           exact H.get s
         . rw [if_neg C]at s
           rw [if_neg (by omega),zj]
           exact p.get _ _ s
       . intro _ i L
         have:k.size=n.size:=by
          have:k.toList.length=n.toList.length:=by rw [K,nC]
          simpa using this
         exact p.free f i (by omega)
   . have:(decide (a.off+l.length<=O)&& !decide (Q=0)&&l.all iw)=false:=by
      rw [<-zt];simpa [and_assoc]using R
     rw [this]at d;simp at d

theorem mr{mu:Mu}{h:Hp}{w w':World}(d:aD mu h w){l:List Value}{l':Array Value}{el a:TypeId}(b:VL mu l l'.toList)(e:WNew w w' (.cells l' a)){t:Tr Value}(f:t.Sized l.length)(g: ∀i,t.get i=l[i]?):
 aD (upd mu h.n (.blk w.heap.size 0 l'.size)) (h.new (.cells t l.length el 1)) w'/\Ext mu h w (upd mu h.n (.blk w.heap.size 0 l'.size)) (h.new (.cells t l.length el 1)) w':=by
 refine j6 d e ⟨l',a,(0,0),rfl,rfl,?_,f,?_,?_⟩
 . have:=b.1;simp at this;omega
 . intro i v c
   rw [g]at c
   obtain⟨j,k,m⟩:=b.get c
   exact⟨j,by rw [zC,<-zj];exact k,m⟩
 . intro _ i _ n;omega
theorem tK(mu:Mu)(b c base top:Nat):dA (upd mu b (.blk c base top)) ⟨b,0,none⟩ ⟨c,base,none⟩:=by
 unfold dA;rw [upd_same];simp
end
end Go.Ab

namespace Go.Ab
section
variable{E:Env}{P:Program}(ok:EOk E P)

theorem nw : ∀(l m:List Value) {r:Bool},cB l m=some r->(∀v∈l,lu v=true)/\(∀v∈m,lu v=true)/\l.length=m.length/\(r=true↔l=m):=by
 intro l
 induction l with
 | nil=>
   intro m r h
   cases m with
   |nil=>simp only [cB]at h;cases h;simp
   |cons b m=>simp [cB]at h
 | cons a l g=>
   intro m r h
   cases m with
   |nil=>cases a<;>simp [cB]at h
   | cons b m=>
     cases a<;>(try (simp [cB]at h;done))
     cases b<;>(try (simp [cB]at h;done))
     rename_i k x i y
     simp only [cB,ey]at h
     by_cases f:k=i
     . subst f
       simp only [decide_true,cond_true]at h
       cases d:cB l m with
       |none=>simp [d]at h
       | some q=>
         rw [d]at h
         simp only []at h
         obtain⟨j,n,o,p⟩:=g m d
         refine⟨fun v c=>?_,fun v c=>?_,by simp [o],?_⟩
         . rcases List.mem_cons.1 c with rfl|c
           . rfl
           . exact j v c
         . rcases List.mem_cons.1 c with rfl|c
           . rfl
           . exact n v c
         . rw [fb]at h
           by_cases e:x=y
           . subst e
             simp at h
             subst h
             rw [p]
             simp
           . simp [e]at h
             subst h
             simp [e]
     . simp [f]at h
theorem xp: ∀(l m:List Value) {r:Bool},cB l m=some r->cB m l=some r:=by
 intro l
 induction l with
 | nil=>
   intro m r h
   cases m with
   |nil=>exact h
   |cons b m=>simp [cB]at h
 | cons a l e=>
   intro m r h
   cases m with
   |nil=>cases a<;>simp [cB]at h
   | cons b m=>
     cases a<;>(try (simp [cB]at h;done))
     cases b<;>(try (simp [cB]at h;done))
     rename_i k x f y
     simp only [cB,ey]at h⊢
     by_cases d:k=f
     . subst d
       simp only [decide_true,cond_true]at h⊢
       cases c:cB l m with
       |none=>simp [c]at h
       | some q=>
         rw [c]at h
         rw [e m c]
         simp only []at h⊢
         rw [fb]at h⊢
         rw [<-h,show(y==x)=(x==y)from zN ..]
     . simp [d]at h
theorem sameBits_self{v:Value}(h:lu v=true)(n:Nat):Instr.sameBits n v v=true:=by
 cases v<;>simp only [lu]at h<;>(try (cases h;done))
 cases n<;>simp [Instr.sameBits]
theorem mY{a b:Value}(h:aY a b=some true): ∀n,Instr.sameBits (n+1) a b=true:=by
 intro n
 unfold aY at h
 cases a<;>(try (simp at h;done))<;>cases b<;>(try (simp at h;done))
 . rename_i x y
   cases x<;>cases y<;>simp at h<;>rfl
 . rename_i k x g y
   simp only []at h
   rw [ey,fb]at h
   by_cases d:k=g
   . subst d;simp at h;subst h;simp [Instr.sameBits]
   . simp [d]at h
 . rename_i s u
   simp only []at h
   rw [gU]at h
   simp at h
   have:s=u:=by cases s;cases u;simp [az]at h;simp [h]
   subst this
   have i:(s==s)=true:=by show(s.data==s.data)=true;simp
   simp [Instr.sameBits,i]
 . rename_i x y
   simp only []at h
   obtain⟨j,_,_,m⟩:=nw _ _ h
   have e:x=y:=by
    have:=m.1 rfl
    cases x;cases y;simpa using this
   subst e
   simp only [Instr.sameBits,beq_self_eq_true,Bool.true_and,zn]
   have: ∀(l:List Value),(∀v∈l,lu v=true)-> ∀p∈l.zip l,Instr.sameBits n p.1 p.2=true:=by
    intro l
    induction l with
    |nil=>intro _ p c;simp at c
    | cons v l o=>
      intro f p c
      rw [List.zip_cons_cons]at c
      rcases List.mem_cons.1 c with rfl|c
      . exact sameBits_self (f v (by simp)) n
      . exact o (fun u q=>f u (by simp [q])) p c
   exact this _ j
theorem te{a b:Value}(t:Bool)(h:aY a b=some t):aY b a=some t:=by
 unfold aY at*
 cases a<;>(try (simp at h;done))<;>cases b<;>(try (simp at h;done))
 . rename_i x y;cases x<;>cases y<;>simp at h⊢ <;>exact h
 . rename_i k x d y
   simp only []at h⊢
   rw [ey,fb]at*
   by_cases c:k=d
   . subst c;simp at h⊢;rw [<-h];exact zN ..
   . simp [c]at h
 . simp only []at h⊢
   rw [gU]at*
   rw [<-h];congr 1;exact zN ..
 . exact xp _ _ h

def eH:TypeDesc->Bool
 | .array _ _=>true
 |_=>false
theorem oZ{kt:TypeId}{k k':Value}{d:TypeDesc}{t:Bool}(e:eH d=false)(f:E.und kt=some d)(hf:aM E kt k=true)(h:aY k k'=some t):Instr.sameNow d k k'=some t:=by
 unfold aM at hf
 simp only [f]at hf
 unfold aY at h
 cases d<;>simp only []at hf<;>try (cases hf;done)
 . cases k<;>simp only []at hf<;>try (cases hf;done)
   cases k'<;>simp only []at h<;>try (cases h;done)
   rename_i a b;cases h;cases a<;>cases b<;>rfl
 . cases k<;>simp only []at hf<;>try (cases hf;done)
   cases k'<;>simp only []at h<;>try (cases h;done)
   rename_i g a i b
   rw [ey,fb]at h
   by_cases c:g=i
   . subst c;simp at h;simp [Instr.sameNow,h]
   . simp [c]at h
 . cases k<;>simp only []at hf<;>try (cases hf;done)
   cases k'<;>simp only []at h<;>try (cases h;done)
   rename_i a b
   rw [gU]at h
   cases h
   simp only [Instr.sameNow]
   congr 1
   rw [show(a==b)=(a.data==b.data)from rfl,<-Array.beq_toList];rfl
 . cases e
theorem jg {kt e:TypeId} {k:Value} {n:Nat} (i:E.und kt=some (.array n e)) (hf:aM E kt k=true): ∃(cs:Array Value) (kd:IntKind),k=.agg cs/\E.agg e=some false/\E.sz e=some 1/\cs.toList.length=n/\E.und e=some (.int kd)/\ ∀v∈cs.toList,∃x,v=.int kd x:=by
 unfold aM at hf
 simp only [i]at hf
 cases k<;>simp only []at hf<;>try (cases hf;done)
 rename_i cs
 cases a:E.agg e with
 |none=>simp [a]at hf
 | some b=>
   cases b with
   |true=>simp [a]at hf
   | false =>
     cases f:E.sz e with
     |none=>simp [a,f]at hf
     | some s=>
       cases h:E.und e with
       |none=>simp [a,f,h]at hf
       | some d=>
         rw [a,f,h]at hf
         cases d<;>simp only []at hf<;>try (cases hf;done)
         rename_i kd
         simp only [a9]at hf
         by_cases c:s=1
         . by_cases g:cs.toList.length=n
           . simp only [c,g,decide_true,cond_true,zn]at hf
             refine⟨cs,kd,rfl,rfl,by rw [c],g,rfl,fun v j=>?_⟩
             have:=hf v j
             cases v<;>simp only [isKd]at this<;>try (cases this;done)
             rename_i l x
             rw [ey]at this
             simp at this
             subst this
             exact⟨x,rfl⟩
           . simp only [c,g,decide_true,decide_false,cond_true,cond_false]at hf
             cases hf
         . simp only [c,decide_false,cond_false]at hf
           cases hf
theorem fits_ok{kt:TypeId}{k:Value}(hf:aM E kt k=true):qG k=true:=by
 cases a:E.und kt with
 |none=>unfold aM at hf;simp [a]at hf
 | some d=>
   cases b:eH d with
   | true=>
     cases d<;>simp only [eH]at b<;>try (cases b;done)
     obtain⟨e,f,rfl,_,_,_,_,c⟩:=jg a hf
     simp only [qG,zn]
     intro v h
     obtain⟨x,rfl⟩:=c v h
     rfl
   | false=>
     unfold aM at hf
     simp only [a]at hf
     cases d<;>simp only []at hf<;>(try (cases hf;done))<;>(try (cases b;done))<;>(cases k<;>simp only []at hf<;>(try (cases hf;done))<;>rfl)

include ok in
theorem gy {kt:TypeId} {k:Value} (hf:aM E kt k=true) (b:Bool) (w:World):(Instr.checkKey b 10000 kt k).run P w=.ok () w:=by
 cases f:E.und kt with
 |none=>unfold aM at hf;simp [f]at hf
 | some d=>
   show((Instr.checkKey b (9998+1+1) kt k)).run P w=_
   cases h:eH d with
   | true=>
     cases d<;>simp only [eH]at h<;>try (cases h;done)
     rename_i n e
     obtain⟨a,A,rfl,p,o,B,q,r⟩:=jg f hf
     unfold Instr.checkKey
     simp only [Sem.run_bind,aN ok f,Result.andThen_ok,du ok o]
     have g: ∀i,i<n-> ∃v,(part e a (i*1)).run P w=.ok v w/\(Instr.checkKey b (9998+1) e v).run P w=.ok () w:=by
      intro i t
      have hlt:i<a.toList.length:=by omega
      obtain⟨x,u⟩:=r _ (zy hlt)
      refine⟨a.toList[i],?_,?_⟩
      . unfold part
        have:a[i]? =some a.toList[i]:=by rw [<-zj,zl hlt]
        rw [zP]
        simp only [Sem.run_bind,qw ok p,Result.andThen_ok]
        simp only [this]
        rfl
      . rw [u]
        unfold Instr.checkKey
        simp only [Sem.run_bind,aN ok q,Result.andThen_ok]
        rfl
     have j: ∀(m i:Nat),i+m<=n->(forIn (List.range' i m) PUnit.unit (fun i _=>do
      let s<-sizeOf e
      let c<-part e a (i*s)
      Instr.checkKey b (9998+1) e c
      pure (ForInStep.yield PUnit.unit)):Sem PUnit).run P w=.ok PUnit.unit w:=by
      intro m
      induction m with
      |zero=>intro i _;simp
      | succ m l=>
        intro i t
        obtain⟨v,y,z⟩:=g i (by omega)
        simp only [List.range'_succ,List.forIn_cons,Sem.run_bind,du ok o,y,z,Result.andThen_ok]
        simpa using l (i+1) (by omega)
     have:=j n 0 (by omega)
     simp only [Std.Legacy.Range.forIn_eq_forIn_range',Std.Legacy.Range.size]
     rw [show(n-0+1-1)/1=n by omega]
     simp at this⊢
     rw [this]
     rfl
   | false=>
     unfold aM at hf
     simp only [f]at hf
     unfold Instr.checkKey
     simp only [Sem.run_bind,aN ok f,Result.andThen_ok]
     cases d<;>simp only []at hf<;>(try (cases hf;done))<;>(try (cases h;done))
     all_goals (cases k<;>simp only []at hf<;>(try (cases hf;done))<;>rfl)

theorem elems_arr {e:TypeId} {kd:IntKind} (i:E.agg e=some false) (h4:E.und e=some (.int kd)): ∀(l m:List Value) {r:Bool},cB l m=some r->(∀v∈l,∃x,v=.int kd x)-> ∀(p q:List Value),p.length=q.length->jZ E (df E 39) e 1 (p++l) (q++m) l.length p.length=some r:=by
 intro l
 induction l with
 | nil=>
   intro m r h _ p q _
   cases m with
   |nil=>simp only [cB]at h;cases h;rfl
   |cons b m=>simp [cB]at h
 | cons a l n=>
   intro m r h j p q c
   obtain⟨x,rfl⟩:=j a (by simp)
   cases m with
   |nil=>simp [cB]at h
   | cons b m=>
     cases b<;>(try (simp [cB]at h;done))
     rename_i d y
     simp only [cB]at h
     have o:partOf E e (p++ .int kd x::l) (p.length*1)=some (.int kd x):=by
      unfold partOf;rw [i];simp
     have s:partOf E e (q++ .int d y::m) (p.length*1)=some (.int d y):=by
      unfold partOf;rw [i,c];simp
     cases f:iU kd d with
     |false=>rw [f]at h;simp at h
     | true=>
       rw [f]at h
       simp only [cond_true]at h
       have t:df E 39 e (.int kd x) (.int d y)=some (fw x y):=by
        show df E (38+1) e _ _=_
        unfold df
        simp only [h4,f,cond_true]
       cases g:cB l m with
       |none=>simp [g]at h
       | some z=>
         rw [g]at h
         simp only []at h
         simp only [List.length_cons,jZ,o,s,t]
         cases k:fw x y with
         |false=>rw [k]at h;simpa using h
         | true=>
           rw [k]at h
           simp only [cond_true]at h
           simp only []
           cases h
           have:=n m g (fun v u=>j v (by simp [u])) (p++[.int kd x]) (q++[.int d y]) (by simp [c])
           simpa using this
theorem aq.ints(mu:Mu){cs:Array Value}(h: ∀v∈cs.toList,lu v=true):aq mu (.agg cs) (.agg cs):=by
 refine .agg rfl fun i v c b a=>?_
 rw [b]at a
 cases a
 have:=h v (zM b)
 cases v<;>simp only [lu]at this<;>try (cases this;done)
 exact .int _ _
include ok in
theorem tQ{kt e:TypeId}{n:Nat}{k k':Value}{t:Bool}(mu:Mu)(c:E.und kt=some (.array n e))(hf:aM E kt k=true)(h:aY k k'=some t)(w:World):(Op.equal kt k k').run P w=.ok t w:=by
 obtain⟨a,p,rfl,d,f,g,i,j⟩:=jg c hf
 unfold aY at h
 cases k'<;>simp only []at h<;>try (cases h;done)
 rename_i b
 obtain⟨l,m,_,_⟩:=nw _ _ h
 have o:df E 40 kt (.agg a) (.agg b)=some t:=by
  show df E (39+1) kt (.agg a) (.agg b)=some t
  unfold df
  simp only [c,f]
  have:=elems_arr d i a.toList b.toList h j [] [] rfl
  rw [g]at this
  exact this
 exact wK ok 40 Op.maxDepth (by decide) o (aq.ints mu l) (aq.ints mu m) w
theorem vC{mu:Mu}{kt:TypeId}{k:Value}{d:TypeDesc}(l:eH d=false)(m:E.und kt=some d)(hf:aM E kt k=true){c:List (Value×Value×Nat)}{es':List MapEntry}(g:jd mu c es')
 (h:aJ k c=some none) (i:Nat):Instr.findNow d k es' i=some none:=by
 induction c generalizing es' i with
 |nil=>rw [g.nil_left];rfl
 | cons e c o=>
   obtain⟨q,r,rfl,j,p⟩:=LR.cons_left g
   obtain⟨a,b,n⟩:=e
   simp only [aJ]at h
   cases f:aY k a with
   |none=>simp [f]at h
   | some t=>
     cases t with
     |true=>simp [f]at h
     | false=>
       simp only [f]at h
       have:=oZ l m hf f
       simp only []at j
       simp only [Instr.findNow,j.1,this]
       exact o p h _
include ok in
theorem wj{mu:Mu}{kt e:TypeId}{n:Nat}{k:Value}(j:E.und kt=some (.array n e))(hf:aM E kt k=true){c:List (Value×Value×Nat)}{es':List MapEntry}(f:jd mu c es')
 (h:aJ k c=some none) (i:Nat) (w:World):(Instr.findAsking kt k es' i).run P w=.ok none w:=by
 induction c generalizing es' i with
 |nil=>rw [f.nil_left];rfl
 | cons x c l=>
   obtain⟨q,r,rfl,g,o⟩:=LR.cons_left f
   obtain⟨a,b,m⟩:=x
   simp only [aJ]at h
   cases d:aY k a with
   |none=>simp [d]at h
   | some t=>
     cases t with
     |true=>simp [d]at h
     | false=>
       simp only [d]at h
       simp only []at g
       have p:=tQ ok mu j hf d w
       simp only [Instr.findAsking,Sem.run_bind,g.1,p,Result.andThen_ok]
       simpa using l o h (i+1)
theorem qO{d:TypeDesc}{kt:TypeId}{k:Value}(a:eH d=true)(b:E.und kt=some d)(hf:aM E kt k=true)(x:MapEntry)(c:List MapEntry)(i:Nat):Instr.findNow d k (x::c) i=none:=by
 cases d<;>simp only [eH]at a<;>try (cases a;done)
 obtain⟨e,f,rfl,_⟩:=jg b hf
 rfl
include ok in
theorem jL{mu:Mu}{kt:TypeId}{k:Value}{d:TypeDesc}(a:E.und kt=some d)(hf:aM E kt k=true){c:List (Value×Value×Nat)}{es':List MapEntry}(e:jd mu c es')
 (h:aJ k c=some none) (w:World):(Instr.findKey kt k es').run P w=.ok none w:=by
 unfold Instr.findKey
 simp only [Sem.run_bind,aN ok a,Result.andThen_ok]
 cases b:eH d with
 |false=>rw [vC b a hf e h 0];rfl
 | true=>
   cases es' with
   |nil=>rfl
   | cons x es'=>
     rw [qO b a hf]
     cases d<;>simp only [eH]at b<;>try (cases b;done)
     exact wj ok a hf e h 0 w
include ok in
theorem find_some{mu:Mu}{kt:TypeId}{k:Value}{d:TypeDesc}(s:E.und kt=some d)(hf:aM E kt k=true){p:List (Value×Value×Nat)}{es':List MapEntry}(B:jd mu p es')
 {v:Value} {n:Nat} (h:aJ k p=some (some (v,n))) (w:World) (i:Nat):
 ∃ j l,es'[j]? =some l/\(eH d=false->Instr.findNow d k es' i=some (some (i+j,l.val)))/\(eH d=true->(Instr.findAsking kt k es' i).run P w=.ok (some (i+j,l.val)) w)/\aq mu v l.val/\l.born=n/\aY k l.key=some true/\
   (∀q f,aq mu q f->jd mu (gp k q p) (es'.set j {l with key:=k,val:=f}))/\jd mu (iK k p) (es'.eraseIdx j):=by
 have ask:eH d=true-> ∀{a:Value} {t:Bool},aY k a=some t->(Op.equal kt k a).run P w=.ok t w:=fun A a t c=>by
  cases d<;>simp only [eH]at A<;>try (cases A;done)
  exact tQ ok mu s hf c w
 induction p generalizing es' i with
 |nil=>simp [aJ]at h
 | cons e p C=>
   obtain⟨l,r,rfl,g,u⟩:=LR.cons_left B
   obtain⟨a,b,m⟩:=e
   simp only [aJ]at h
   simp only []at g
   cases c:aY k a with
   |none=>simp [c]at h
   | some t=>
     cases t with
     | true=>
       simp only [c]at h
       cases h
       have x:qG k=true:=fits_ok hf
       refine⟨0,l,rfl,fun o=>by simp [Instr.findNow,g.1,oZ o s hf c],fun o=>by simp [Instr.findAsking,Sem.run_bind,g.1,ask o c],g.2.2.1,g.2.2.2,by rw [g.1];exact c,?_,?_⟩
       . intro q f y
         simp only [gp,c,List.set_cons_zero]
         exact LR.cons ⟨rfl,x,y,g.2.2.2⟩ u
       . simp only [iK,c,List.eraseIdx_zero];exact u
     | false=>
       simp only [c]at h
       obtain⟨j,D,F,G,z,H,I,J,K,L⟩:=C u h (i+1)
       refine⟨j+1,D,by simpa using F,fun o=>?_,fun o=>?_,H,I,J,?_,?_⟩
       . simp only [Instr.findNow,g.1,oZ o s hf c,G o];rw [show i+1+j=i+(j+1) by omega]
       . simp only [Instr.findAsking,Sem.run_bind,g.1,ask o c,Result.andThen_ok]
         rw [show i+(j+1)=i+1+j by omega]
         simpa using z o
       . intro q f y
         simp only [gp,c,List.set_cons_succ]
         exact LR.cons g (K q f y)
       . simp only [iK,c,List.eraseIdx_cons_succ]
         exact LR.cons g L
include ok in
theorem jC{mu:Mu}{kt:TypeId}{k:Value}{d:TypeDesc}(f:E.und kt=some d)(hf:aM E kt k=true){e:List (Value×Value×Nat)}{es':List MapEntry}(o:jd mu e es')
 {v:Value} {n:Nat} (h:aJ k e=some (some (v,n))) (w:World):
 ∃ j a,es'[j]? =some a/\(Instr.findKey kt k es').run P w=.ok (some (j,a.val)) w/\aq mu v a.val/\a.born=n/\aY k a.key=some true/\
   (∀i b,aq mu i b->jd mu (gp k i e) (es'.set j {a with key:=k,val:=b}))/\jd mu (iK k e) (es'.eraseIdx j):=by
 obtain⟨j,a,l,m,c,p,q,r,s,t⟩:=find_some ok f hf o h w 0
 refine⟨j,a,l,?_,p,q,r,s,t⟩
 unfold Instr.findKey
 simp only [Sem.run_bind,aN ok f,Result.andThen_ok]
 rw [zC]at m c
 cases g:eH d with
 |false=>rw [m g];rfl
 | true=>
   cases es' with
   |nil=>simp at l
   |cons x es'=>rw [qO g f hf];exact c g
theorem yM{mu:Mu}{n:Nat}{v v':Value}(o:aq mu v v'){d es2:List (Value×Value×Nat)}{es':List MapEntry}(p:jd mu d es')(h:eg n v d=some es2):
 ∃j f,es'.findIdx? (fun e=>(e.born:Int)==(n:Int))=some j/\es'[j]? =some f/\jd mu es2 (es'.set j {f with val:=v'}):=by
 induction d generalizing es' es2 with
 |nil=>simp [eg]at h
 | cons e d q=>
   obtain⟨f,r,rfl,c,k⟩:=LR.cons_left p
   obtain⟨a,b,m⟩:=e
   simp only [eg,a9]at h
   simp only []at c
   by_cases g:m=n
   . subst g
     simp only [decide_true,cond_true]at h
     cases h
     refine⟨0,f,?_,rfl,?_⟩
     . simp [List.findIdx?_cons,c.2.2.2]
     . exact LR.cons ⟨c.1,c.2.1,o,c.2.2.2⟩ k
   . simp only [g,decide_false,cond_false]at h
     cases i:eg n v d with
     |none=>simp [i]at h
     | some l=>
       simp only [i]at h
       cases h
       obtain⟨j,s,t,u,w⟩:=q k i
       refine⟨j+1,s,?_,by simpa using u,?_⟩
       . have:((f.born:Int)==(n:Int))=false:=by rw [c.2.2.2];simp;omega
         simp [List.findIdx?_cons,this,t]
       . simp only [List.set_cons_succ];exact LR.cons c w
end
end Go.Ab

namespace Go.Ab

def jw(mu:Mu)(d e:Deferred):Prop:=match d.target with
 | .fn (.func f) g=> ∃a,e.target=.fn (.func f) a/\VL mu g.toList a.toList/\VL mu d.args.toList e.args.toList
 | .collected b=> ∃c,e.target=.collected c/\cL mu b c
 |_=>False

theorem oC{α:Type}{l:List α}{j:Nat}{e:α}(h:l[j]? =some e)(f:α->α):l.modify j f=l.set j (f e):=by
 apply List.ext_getElem?
 intro i
 rw [List.getElem?_modify,List.getElem?_set]
 by_cases a:j=i
 . subst a
   rw [if_pos rfl,if_pos (List.getElem?_eq_some_iff.1 h).1,h];simp
 . simp [a]

section
variable{E:Env}{P:Program}(ok:EOk E P)

def Res(P:Program)(mu:Mu)(h:Hp)(w:World)(s:Sem Next)(i:Hp):cH->Prop
 | .val v=> ∃k e j,s.run P w=.ok (.value k) j/\aD e i j/\Ext mu h w e i j/\aq e v k
 | .skip=> ∃e j,s.run P w=.ok .skip j/\aD e i j/\Ext mu h w e i j
 | .call f g=>i=h/\ ∃a,s.run P w=(callFunc f a).run P w/\VL mu g a.toList
 | .yield b g=>i=h/\ ∃c a,s.run P w=(Instr.yield c a).run P w/\cL mu b c/\VL mu g a.toList
 | .recov=>i=h/\s.run P w=.ok .recover w
 | .defer d=>i=h/\ ∃l,s.run P w=.ok (.defer l) w/\jw mu d l
 | .panic v=>i=h/\ ∃k,s.run P w=.halt (.panic k) w/\aq mu v k

theorem vO{w:World}{r:Nat}{o:Obj}(h: ∃q,w.heap[r]? =some q):WSet w {w with heap:=w.heap.setIfInBounds r o} r o:=by
 obtain⟨q,a⟩:=h
 have b:r<w.heap.size:=(Array.getElem?_eq_some_iff.1 a).1
 refine⟨by simp,by simp [b],fun j c=>?_,rfl,rfl,rfl⟩
 show(w.heap.setIfInBounds r o)[j]? =_
 rw [Array.getElem?_setIfInBounds];rw [if_neg (Ne.symm c)]

theorem sg{mu:Mu}{h:Hp}{w:World}(f:aD mu h w){b c:Nat}(d:cL mu b c){g:List (Value×Value×Nat)}{a:Nat}(i:h.get b=some (.map g a)):
 ∃top es',mu b=.blk c 0 top/\w.heap[c]? =some (.map es' a)/\jd mu g es'.toList:=by
 unfold cL at d
 cases e:mu b with
 |none=>rw [e]at d;exact d.elim
 |dead=>have:=f.dead _ e;rw [i]at this;cases this
 | blk p j top=>
   rw [e]at d
   obtain⟨rfl,rfl⟩:=d
   obtain⟨y,o,k,l,m⟩:=f.blk _ c 0 top e
   rw [i]at k;cases k
   obtain⟨_,es',rfl,n⟩:=m
   exact⟨top,es',rfl,l,n⟩
theorem kC{mu:Mu}{h:Hp}{w:World}(f:aD mu h w){b c top:Nat}{g es2:List (Value×Value×Nat)}{a clock2:Nat}(i:h.get b=some (.map g a))(j:mu b=.blk c 0 top)
 {es' es2':Array MapEntry} (d:w.heap[c]? =some (.map es' a)) (k:jd mu es2 es2'.toList):
 (setObj c (.map es2' clock2)).run P w=.ok () {w with heap:=w.heap.setIfInBounds c (.map es2' clock2)}/\
 aD mu (h.put b (.map es2 clock2)) {w with heap:=w.heap.setIfInBounds c (.map es2' clock2)}/\Ext mu h w mu (h.put b (.map es2 clock2)) {w with heap:=w.heap.setIfInBounds c (.map es2' clock2)}:=by
 refine⟨by simp [setObj,Sem.run,d],?_⟩
 exact rG f j (by intro t l el e;rw [i]at e;cases e) (vO ⟨_,d⟩) ⟨rfl,es2',rfl,k⟩
theorem gP{w:World}{c:Nat}{b:Array MapEntry}{a:Nat}(d:w.heap[c]? =some (.map b a)):(getObj c).run P w=.ok (.map b a) w:=by
 simp [getObj,Sem.run,d]

include ok
theorem ul{mu:Mu}{h:Hp}{w:World}(p:aD mu h w){t:TypeId}{x x' v:Value}(c:dJ E h t x=some v)(s:aq mu x x'):
 ∃v',(Instr.loadAt t x').run P w=.ok v' w/\aq mu v v':=by
 unfold dJ at c
 cases s<;>(try simp only []at c)<;>try (cases c;done)
 rename_i a j e
 unfold Instr.loadAt
 simp only [Instr.sureAddr,Sem.run_bind,Sem.run_pure,Result.andThen_ok]
 unfold loadVar
 cases g:E.agg t with
 |none=>simp [g]at c
 | some b=>
   simp only [Sem.run_bind,qw ok g,Result.andThen_ok]
   cases b with
   | true=>
     simp only [g]at c
     cases k:E.sz t with
     |none=>simp [k]at c
     | some n=>
       simp only [k]at c
       cases d:h.load a.block a.off n with
       |none=>simp [d]at c
       | some l=>
         simp only [d]at c
         cases c
         obtain⟨m,i,f,o⟩:=rL p e d
         have:=run_loadCells_list (P:=P) w j i o
         have y:i.length=n:=by rw [<-f.1];exact m
         rw [y]at this
         exact⟨.agg i.toArray,by simp [du ok k,this],.agg f.1 f.2⟩
   | false=>
     simp only [g]at c
     cases d:h.load a.block a.off 1 with
     |none=>simp [d]at c
     | some l=>
       simp only [d]at c
       obtain⟨m,i,f,o⟩:=rL p e d
       match l,m with
       | [u],_=>
         simp only []at c
         cases c
         obtain⟨q,r,rfl,z,A⟩:=f.cons_left
         have:=o 0 q (by simp)
         rw [show j.add 0=j by simp [Addr.add]]at this
         exact⟨q,by simp [this],z⟩
theorem yX{mu:Mu}{h g:Hp}{w:World}(m:aD mu h w){t:TypeId}{x x' v v':Value}(c:fH E h t x v=some g)(o:aq mu x x')(p:aq mu v v'):
 ∃w',(Instr.storeAt t x' v').run P w=.ok () w'/\aD mu g w'/\Ext mu h w mu g w':=by
 unfold fH at c
 cases o<;>(try simp only []at c)<;>try (cases c;done)
 rename_i a u i
 cases j:E.sz t with
 |none=>simp [j]at c
 | some n=>
   simp only [j]at c
   have d: ∀y,v≠ .chan y:=by intro y e;subst e;simp at c
   have b:(bif Nat.beq (ah v).length n then h.store a.block a.off (ah v)else none)=some g:=by
    cases v<;>first|exact c|exact absurd rfl (d _)
   rw [a9]at b
   by_cases k:(ah v).length=n
   . simp only [k,decide_true,cond_true]at b
     have f:=p.cells d
     obtain⟨w',q,r,s⟩:=pS (P:=P) m i b f
     refine⟨w',?_,r,s⟩
     have l:v'.cells.size=n:=by rw [<-k];exact f.1.symm
     simp [Instr.storeAt,Instr.sureAddr,storeVar,du ok j,l,q]
   . simp [k]at b

omit ok in
theorem pZ {mu:Mu} {kt:TypeId} {k k':Value} (hf:aM E kt k=true) (f:aq mu k k'):k'=k/\qG k=true/\ ∃kd,E.und kt=some kd:=by
 unfold aM at hf
 cases a:E.und kt with
 |none=>simp [a]at hf
 | some kd=>
   cases b:eH kd with
   | true=>
     cases kd<;>simp only [eH]at b<;>try (cases b;done)
     have c:=fits_ok (E:=E) (kt:=kt) (k:=k) (by unfold aM;exact hf)
     obtain⟨g,kd,rfl,_,_,_,_,j⟩:=jg a (by unfold aM;exact hf)
     refine⟨?_,c,_,rfl⟩
     cases f with
     | @agg _ d l m=>
       have:g.toList=d.toList:=by
        refine List.ext_getElem l fun i h e=>?_
        obtain⟨x,n⟩:=j _ (zy h)
        have:=m i _ _ (zl h) (zl e)
        rw [n]at this⊢
        generalize d.toList[i]=u at this
        cases this;rfl
       cases g;cases d;simp at this;simp [this]
   | false=>
     simp only [a]at hf
     cases kd<;>simp only []at hf<;>(try (cases hf;done))<;>(try (cases b;done))<;>(cases f<;>simp only []at hf<;>(try (cases hf;done))<;>exact⟨rfl,rfl,_,rfl⟩)

theorem xm {mu:Mu} {h:Hp} {w:World} (L:aD mu h w) {t:TypeId} {m I k k' v:Value} {q:Bool} (a:bU E h t m k q=some v) (M:aq mu m I) (N:aq mu k k'):
 ∃v',(Instr.lookup t I k' q).run P w=.ok v' w/\aq mu v v':=by
 unfold bU at a
 cases A:E.und t with
 |none=>simp [A]at a
 | some d=>
   simp only [A]at a
   cases d<;>simp only []at a<;>try (cases a;done)
   rename_i B el
   cases hf:aM E B k with
   |false=>simp [hf]at a
   | true=>
     simp only [hf,cond_true]at a
     have C:k'=k:=(pZ (E:=E) hf N).1
     subst C
     have o: ∀{z y:Value},aq mu z y-> ∀b,aq mu (bif q then .tuple #[z,.bool b]else z) (if q then .tuple #[y,.bool b]else y):=by
      intro z y l b
      cases q with
      |false=>exact l
      | true=>
        have:VL mu [z,.bool b] [y,.bool b]:=LR.cons l (LR.cons (.bool b) LR.nil)
        exact .tuple this.1 this.2
     obtain⟨s,e⟩: ∃s,E.und B=some s:=by
      unfold aM at hf
      cases e:E.und B with
      |none=>simp [e]at hf
      |some s=>exact⟨s,rfl⟩
     have g:(match E.zeroV el with|none=>none|some z=>some (bif q then .tuple #[z,.bool false]else z))=some v->
      ∃z,(zeroValue el).run P w=.ok z w/\aq mu v (if q then .tuple #[z,.bool false]else z):=by
      intro l
      cases i:E.zeroV el with
      |none=>simp [i]at l
      | some z=>
        simp only [i]at l
        cases l
        obtain⟨O,Q⟩:=mZ ok i w mu
        exact⟨z,O,o Q false⟩
     unfold Instr.lookup
     simp only [Sem.run_bind,aN ok A,Result.andThen_ok]
     cases M<;>(try simp only []at a)<;>try (cases a;done)
     . obtain⟨z,D,F⟩:=g a
       refine⟨_,?_,F⟩
       simp [gy ok hf,Instr.findKey,aN ok e,Instr.findNow,D]
     . rename_i b c R
       cases G:h.get b with
       |none=>simp [G]at a
       | some x=>
         simp only [G]at a
         cases x<;>simp only []at a<;>try (cases a;done)
         rename_i S H
         obtain⟨T,U,X,J,K⟩:=sg L R G
         cases f:aJ k' S with
         |none=>simp [f]at a
         | some r=>
           cases r with
           | none=>
             simp only [f]at a
             obtain⟨z,D,F⟩:=g a
             refine⟨_,?_,F⟩
             simp [gy ok hf,gP J,jL ok e hf K f,D]
           | some p=>
             obtain⟨u,n⟩:=p
             simp only [f]at a
             cases a
             obtain⟨j,Y,Z,V,W,_⟩:=jC ok e hf K f w
             refine⟨_,?_,o W true⟩
             simp [gy ok hf,gP J,V]

omit ok in
theorem po{mu:Mu}{h:Hp}{w:World}(l:aD mu h w){t:TypeId}{m i k k':Value}{r a:Nat}{g:List (Value×Value×Nat)}{el:TypeId}(e:gc E h t m k=some (r,g,a,el))
 (n:aq mu m i) (o:aq mu k k'): ∃kt kd c top es',E.und t=some (.map kt el)/\E.und kt=some kd/\aM E kt k=true/\k'=k/\qG k=true/\i=.map (some c)/\h.get r=some (.map g a)/\
  mu r=.blk c 0 top/\w.heap[c]? =some (.map es' a)/\jd mu g es'.toList:=by
 unfold gc at e
 cases j:E.und t with
 |none=>simp [j]at e
 | some d=>
   simp only [j]at e
   cases d<;>simp only []at e<;>try (cases e;done)
   rename_i kt p
   cases hf:aM E kt k with
   |false=>simp [hf]at e
   | true=>
     simp only [hf,cond_true]at e
     obtain⟨q,s,kd,u⟩:=pZ (E:=E) hf o
     cases n<;>(try simp only []at e)<;>try (cases e;done)
     rename_i b c v
     cases f:h.get b with
     |none=>simp [f]at e
     | some x=>
       simp only [f]at e
       cases x<;>simp only []at e<;>try (cases e;done)
       cases e
       obtain⟨top,es',y,z,A⟩:=sg l v f
       exact⟨kt,kd,c,top,es',rfl,u,hf,q,s,rfl,f,y,z,A⟩

theorem rV {mu:Mu} {h i:Hp} {w:World} (l:aD mu h w) {t:TypeId} {m D k k' v v':Value} (f:c7 E h t m k v=some i) (K:aq mu m D) (L:aq mu k k') (F:aq mu v v'):
 ∃w',(Instr.mapUpdate t D k' v').run P w=.ok () w'/\aD mu i w'/\Ext mu h w mu i w':=by
 unfold c7 at f
 cases o:gc E h t m k with
 |none=>simp [o]at f
 | some q=>
   obtain⟨r,s,a,el⟩:=q
   simp only [o]at f
   obtain⟨U,V,c,M,b,N,G,x,rfl,O,rfl,H,I,e9,e10⟩:=po l o K L
   unfold Instr.mapUpdate
   simp only [Sem.run_bind,aN ok N,Result.andThen_ok,gP e9,gy ok x]
   cases d:aJ k' s with
   |none=>simp [d]at f
   | some p=>
     cases p with
     | none=>
       simp only [d]at f
       cases f
       have y:=jL ok G x e10 d w
       obtain⟨z,A,B⟩:=kC (P:=P) l H I e9 (es2:=s++[(k',v,a)]) (es2':=b.push {key:=k',val:=v',born:=a}) (clock2:=a+1) (by
        simp only [Array.toList_push]
        exact LR.append e10 (LR.cons ⟨rfl,O,F,rfl⟩ LR.nil))
       exact⟨_,by simp [y,z],A,B⟩
     | some u=>
       obtain⟨u,n⟩:=u
       simp only [d]at f
       cases f
       obtain⟨j,g,J,Q,W,X,R,S,Y⟩:=jC ok G x e10 d w
       have T:b[j]? =some g:=by rw [<-zj];exact J
       have C:(Instr.keyThatStays g.key k').run P w=.ok k' w:=by
        simp [Instr.keyThatStays,(show Instr.sameBits 10000 g.key k'=true from mY (te true R) 9999)]
       obtain⟨z,A,B⟩:=kC (P:=P) l H I e9 (es2:=gp k' v s) (es2':=b.modify j fun e=>{e with key:=k',val:=v'}) (clock2:=a) (by
        have:(b.modify j fun e=>{e with key:=k',val:=v'}).toList=b.toList.set j {g with key:=k',val:=v'}:=by
         rw [zF]
         exact oC J _
        rw [this];exact S v v' F)
       refine⟨_,?_,A,B⟩
       simp [Q,T,C,z]
end
end Go.Ab

namespace Go.Ab
section
variable{E:Env}{P:Program}(ok:EOk E P)
include ok

theorem yy {mu:Mu} {h v:Hp} {w:World} (y:aD mu h w) {t ty:TypeId} {ts:Array TypeId} {xs:Array Value} {m J k k':Value} (N:ts[0]? =some t) (z:xs[0]? =some J) (A:xs[1]? =some k')
 (g:jN E h t m k=some v) (O:aq mu m J) (Q:aq mu k k'):
 ∃w',(Builtin.delete_ ts ty xs).run P w=.ok (.tuple #[]) w'/\aD mu v w'/\Ext mu h w mu v w':=by
 unfold jN at g
 cases B:gc E h t m k with
 |none=>simp [B]at g
 | some q=>
   obtain⟨r,i,d,el⟩:=q
   simp only [B]at g
   obtain⟨Y,Z,c,R,e,S,K,C,rfl,e5,rfl,L,M,e9,e10⟩:=po y B O Q
   unfold Builtin.delete_
   simp only [N,z,A,Sem.run_bind,aN ok S,Result.andThen_ok,gP e9,gy ok C]
   cases f:aJ k' i with
   |none=>simp [f]at g
   | some p=>
     simp only [f]at g
     cases g
     cases p with
     | none=>
       have D:=jL ok K C e10 f w
       have o:iK k' i=i:=by
        have : ∀l:List (Value×Value×Nat),aJ k' l=some none->iK k' l=l:=by
         intro l
         induction l with
         |nil=>intro _;rfl
         | cons x l T=>
           obtain⟨a,b,n⟩:=x
           intro s
           simp only [aJ]at s
           simp only [iK]
           cases F:aY k' a with
           |none=>simp [F]at s
           | some b=>cases b with
             |true=>simp [F]at s
             |false=>simp only [F]at s⊢;rw [T s]
        exact this i f
       obtain⟨G,H,I⟩:=kC (P:=P) y L M e9 (es2:=iK k' i) (es2':=e) (clock2:=d) (by rw [o];exact e10)
       exact⟨_,by simp [D,G],H,I⟩
     | some u=>
       obtain⟨u,n⟩:=u
       obtain⟨j,e',U,V,f3,f4,f5,f6,W⟩:=jC ok K C e10 f w
       obtain⟨G,H,I⟩:=kC (P:=P) y L M e9 (es2:=iK k' i) (es2':=e.eraseIdxIfInBounds j) (clock2:=d) (by
        have:(e.eraseIdxIfInBounds j).toList=e.toList.eraseIdx j:=by
         unfold Array.eraseIdxIfInBounds
         have X:j<e.size:=by have:=(List.getElem?_eq_some_iff.1 U).1;simpa using this
         rw [dif_pos X];simp
        rw [this];exact W)
       exact⟨_,by simp [V,G],H,I⟩

theorem yE {mu:Mu} {h o:Hp} {w:World} (s:aD mu h w) {t:TypeId} {m I k k' v:Value} (f:fQ E h t m k=some (o,v)) (Q:aq mu m I) (R:aq mu k k'):
 ∃v' w',(Instr.mapEntry t I k').run P w=.ok v' w'/\aD mu o w'/\Ext mu h w mu o w'/\aq mu v v':=by
 have g: ∀{z y:Value},aq mu z y-> ∀n:Nat,aq mu (.tuple #[z,.int .i64 (.ofNat n)]) (.tuple #[y,goInt (n:Int)]):=by
  intro z y i n
  have:VL mu [z,.int .i64 (.ofNat n)] [y,goInt (n:Int)]:=LR.cons i (LR.cons (.int _ _) LR.nil)
  exact .tuple this.1 this.2
 unfold fQ at f
 cases x:gc E h t m k with
 |none=>simp [x]at f
 | some q =>
   obtain⟨r,A,a,el⟩:=q
   simp only [x]at f
   obtain⟨kt,kd,c,S,b,T,J,B,rfl,U,rfl,K,L,e9,e10⟩:=po s x Q R
   unfold Instr.mapEntry
   simp only [Sem.run_bind,aN ok T,Result.andThen_ok,gP e9,gy ok B]
   cases d:aJ k' A with
   |none=>simp [d]at f
   | some p=>
     cases p with
     | none=>
       simp only [d]at f
       cases i:E.zeroV el with
       |none=>simp [i]at f
       | some z=>
         simp only [i]at f
         cases f
         obtain⟨V,M⟩:=mZ ok i w mu
         have C:=jL ok J B e10 d w
         obtain⟨D,F,G⟩:=kC (P:=P) s K L e9 (es2:=A++[(k',z,a)]) (es2':=b.push {key:=k',val:=z,born:=a}) (clock2:=a+1) (by
          simp only [Array.toList_push]
          exact LR.append e10 (LR.cons ⟨rfl,U,M,rfl⟩ LR.nil))
         exact⟨_,_,by simp [C,V,D],F,G,g M a⟩
     | some u=>
       obtain⟨u,n⟩:=u
       simp only [d]at f
       cases f
       obtain⟨j,l,N,W,O,X,Y,Z,f7⟩:=jC ok J B e10 d w
       have hj:b[j]? =some l:=by rw [<-zj];exact N
       have H:(Instr.keyThatStays l.key k').run P w=.ok k' w:=by
        simp [Instr.keyThatStays,(show Instr.sameBits 10000 l.key k'=true from mY (te true Y) 9999)]
       obtain⟨D,F,G⟩:=kC (P:=P) s K L e9 (es2:=gp k' u A) (es2':=b.modify j fun e=>{e with key:=k'}) (clock2:=a) (by
        have:(b.modify j fun e=>{e with key:=k'}).toList=b.toList.set j {l with key:=k'}:=by
         rw [zF];exact oC N _
        rw [this];exact Z u l.val O)
       refine⟨_,_,by simp [W,hj,H,D];rfl,F,G,?_⟩
       rw [X];exact g O n

omit ok in
theorem wo {mu:Mu} {h p:Hp} {w:World} (u:aD mu h w) {t:TypeId} {m y s s' v v':Value} (a:jf h m s v=some p) (z:aq mu m y) (A:aq mu s s') (B:aq mu v v'):
 ∃w',(Instr.entryStore t y s' v').run P w=.ok () w'/\aD mu p w'/\Ext mu h w mu p w':=by
 unfold jf at a
 cases z<;>(try simp only []at a)<;>try (cases a;done)
 rename_i b c C
 cases o:h.get b with
 |none=>simp [o]at a
 | some x=>
   simp only [o]at a
   cases x<;>(try simp only []at a)<;>try (cases a;done)
   rename_i D f
   obtain⟨F,d,G,e9,e10⟩:=sg u C o
   cases A<;>(try simp only []at a)<;>try (cases a;done)
   rename_i k i
   cases q:fo i with
   |none=>simp [q]at a
   | some n=>
     have:=mG q
     subst this
     simp only [q]at a
     cases g:eg n v D with
     |none=>simp [g]at a
     | some es2=>
       simp only [g]at a
       cases a
       obtain⟨j,H,I,J,K⟩:=yM B e10 g
       obtain⟨L,M,N⟩:=kC (P:=P) u o G e9 (es2:=es2) (es2':=d.modify j fun e=>{e with val:=v'}) (clock2:=f) (by
        have:(d.modify j fun e=>{e with val:=v'}).toList=d.toList.set j {H with val:=v'}:=by
         rw [zF];exact oC J _
        rw [this];exact K)
       have r:d.findIdx? (fun e=>(e.born:Int)==(n:Int))=some j:=by obtain⟨l⟩:=d;simpa using I
       exact⟨_,by simp [Instr.entryStore,gP e9,asInt,asIntOf,r,L],M,N⟩

omit ok in
theorem i7(a:List Value)(n:Nat):(aV a n).length=n*a.length:=by
 induction n with
 |zero=>simp [aV]
 |succ n b=>simp [aV,b,Nat.succ_mul];omega
omit ok in
theorem wL(b:List Value)(n i:Nat)(h:i<n*b.length):(aV b n)[i]? =b[i%b.length]? :=by
 induction n generalizing i with
 |zero=>simp at h
 | succ n d=>
   simp only [aV]
   by_cases c:i<b.length
   . rw [zk c,Nat.mod_eq_of_lt c]
   . rw [zu (by omega),d _ (by rw [zH,Nat.one_mul]at h;omega)]
     rw [Nat.mod_eq_sub_mod (a:=i) (by omega)]
omit ok in
theorem tP{mu:Mu}{z:Value}{a:List Value}(k:z.cells.toList=a)(l:a.all cg=true)(c:Nat):
 VL mu (aV a c) ((zI (c*a.length)).map (z.cells[· %z.cells.size]!)).toList:=by
 have h:z.cells.size=a.length:=by rw [<-k];rfl
 refine⟨by simp [i7],fun i v m f b=>?_⟩
 have g:i<c*a.length:=by
  have:=(List.getElem?_eq_some_iff.1 f).1
  rwa [i7]at this
 rw [wL _ _ _ g]at f
 have d:0<a.length:=by
  rcases Nat.eq_zero_or_pos a.length with j|j
  . rw [j]at g;simp at g
  . exact j
 have o:i%a.length<a.length:=Nat.mod_lt _ d
 have e:m=z.cells[i%a.length]! :=by
  simp only [zp,List.getElem?_map,Array.toList_range]at b
  rw [List.getElem?_range g]at b
  simp at b
  rw [<-b,h]
 have n:z.cells[i%a.length]! =v:=by
  rw [getElem!_pos z.cells _ (by omega)]
  have:z.cells.toList[i%a.length]? =some v:=by rw [k];exact f
  rw [List.getElem?_eq_some_iff]at this
  obtain⟨_,q⟩:=this
  rw [<-q];simp
 rw [e,n]
 simp only [zn]at l
 exact aq.const mu (l v (zM f))

omit ok in
theorem vz{mu:Mu}{v v':Value}{n:Nat}(h:natV v=some n)(a:aq mu v v'): ∃k,v'=.int k (n:Int):=by
 unfold natV at h
 cases a<;>(try simp only []at h)<;>try (cases h;done)
 rename_i k i
 exact⟨k,by rw [mG h]⟩
omit ok in
theorem wrap_small{n:Nat}(h:n<=70368744177664):IntKind.i64.wrap (n:Int)=n:=by
 rw [<-fD]
 show(bif Nat.blt n 9223372036854775808 then _ else _)=_
 rw [fC]
 have:n<9223372036854775808:=by omega
 simp [this]
omit ok in
theorem eR(w:World)(o:Obj):WNew w {w with heap:=w.heap.push o} o:=⟨rfl,rfl,rfl,rfl⟩
omit ok in
theorem uw(mu:Mu)(b c top n cap cap' k:Nat)(h:n<=cap)(a:cap<=cap')(d:cap'*k<=top):aq (upd mu b (.blk c 0 top)) (.slice (some ⟨b,0,some k⟩) n cap) (.slice (some ⟨c,0,none⟩) n cap'):=by
 refine .slice h ?_
 unfold da
 simp only [upd_same]
 exact⟨a,trivial,trivial,by simpa using d,by simp⟩
omit ok in
theorem lW(mu:Mu)(b c top n cap:Nat)(h:n<=cap):aq (upd mu b (.blk c 0 top)) (.slice (some ⟨b,0,none⟩) n cap) (.slice (some ⟨c,0,none⟩) n cap):=by
 refine .slice h ?_
 unfold da
 simp only [upd_same]
 simp

theorem tB {mu : Mu} {h G:Hp} {w:World} (H:aD mu h w) {t:TypeId} {l l' c c' v:Value} (b:gZ E h t l c=some (G,v)) (T:aq mu l l') (U:aq mu c c'):
 ∃v' x w',(Instr.makeSlice t l' c').run P w=.ok v' w'/\aD x G w'/\Ext mu h w x G w'/\aq x v v':=by
 unfold gZ at b
 cases I:E.und t with
 |none=>simp [I]at b
 | some d=>
   simp only [I]at b
   cases d<;>(try simp only []at b)<;>try (cases b;done)
   rename_i e
   cases C:natV l with
   |none=>simp [C]at b
   | some n =>
     cases J:natV c with
     |none=>simp [C,J]at b
     | some m=>
       obtain⟨V,rfl⟩:=vz C T
       obtain⟨W,rfl⟩:=vz J U
       simp only [C,J]at b
       cases D:E.ty e with
       |none=>simp [D]at b
       | some i =>
         simp only [D,dj]at b
         by_cases o:n<=m/\m*(i.bytes+1)<=70368744177664
         . obtain ⟨F,X⟩:=o
           simp only [F,X,decide_true,zx,cond_true]at b
           cases K:E.zero e with
           |none=>simp [K]at b
           | some L=>
             simp only [K,a9]at b
             by_cases f:L.length=i.size
             . simp only [f,decide_true,cond_true]at b
               obtain⟨z,A,Y,z3,Z⟩:=jW ok K w
               have M:m<=70368744177664:=by
                have:m*1<=m*(i.bytes+1):=Nat.mul_le_mul_left m (by omega)
                omega
               have N:n<=70368744177664:=by omega
               have O: ¬((i.bytes:Int)*(m:Int)>2 ^48):=by
                have:i.bytes*m<=m*(i.bytes+1):=by rw [Nat.mul_comm,Nat.mul_add];omega
                have:((i.bytes*m:Nat):Int)<=70368744177664:=by omega
                rw [Int.natCast_mul]at this
                rw [show(2:Int) ^48=281474976710656 from rfl];omega
               have y:E.sz e=some i.size:=by unfold Env.sz;rw [D]
               have a:=tP (mu:=mu) Y Z m
               obtain⟨k,p⟩: ∃k,k=(zI (m*L.length)).map (z.cells[· %z.cells.size]!):=⟨_,rfl⟩
               rw [<-p]at a
               have B:(Instr.makeSlice t (.int V n) (.int W m)).run P w=.ok (.slice (some ⟨w.heap.size,0,none⟩) n m) {w with heap:=w.heap.push (.cells k e)}:=by
                unfold Instr.makeSlice
                simp only [Sem.run_bind,aN ok I,Result.andThen_ok,asInt,asIntOf,Sem.run_pure,kH ok D,wrap_small M,wrap_small N]
                have c1:(decide ((m:Int)<0)||decide ((i.bytes:Int)*(m:Int)>2 ^48))=false:=by
                 rw [decide_eq_false O,decide_eq_false (show¬((m:Int)<0) by omega)];rfl
                have c2:((decide ((m:Int)<0)||decide ((i.bytes:Int)*(m:Int)>2 ^48))||decide ((n:Int)<0)||decide ((n:Int)>(m:Int)))=false:=by
                 rw [c1];simp;omega
                rw [if_neg (by rw [c2];simp)]
                simp only [Sem.run_bind,run_askRoom,Result.andThen_ok,du ok y,Int.toNat_natCast]
                by_cases q:m*i.size=0
                . have:k=#[]:=by rw [p,f,q];simp
                  rw [if_pos q]
                  simp [newRow,q,this]
                  rw [show Array.map (fun _=>(default:Value)) (zI 0)=#[] by simp]
                . rw [if_neg q]
                  simp [A,newRow,p,f]
               rw [B]
               have S:k.size=m*i.size:=by rw [p];simp [f]
               match L,b,a,f with
               | [],b,a,f=>
                 cases b
                 have g:(aV [] m).length=m*i.size:=by rw [i7,<-f]
                 obtain⟨s,u⟩:=mr (w':={w with heap:=w.heap.push (.cells k e)}) H (l:=aV [] m) (l':=k) (el:=e) a (eR w _) (t:=Tr.ofList (aV [] m)) (Tr.sized_ofList _) (Tr.get_ofList _)
                 rw [g]at s u
                 exact⟨_,_,_,rfl,s,u,lW mu h.n w.heap.size k.size n m F⟩
               | [r],b,a,f=>
                 cases b
                 have g:(aV [r] m).length=m:=by rw [i7];simp
                 obtain⟨s,u⟩:=mr (w':={w with heap:=w.heap.push (.cells k e)}) H (l:=aV [r] m) (l':=k) (el:=e) a (eR w _) (t:=Tr.blank r m m) (by rw [g];exact Tr.sized_blank r m m (zo _)) (by
                  intro j
                  rw [Tr.get_blank r m m (zo _)]
                  by_cases Q:j<m
                  . rw [if_pos Q,wL _ _ _ (by simpa using Q)];simp [Nat.mod_one]
                  . rw [if_neg Q,List.getElem?_eq_none (by omega)])
                 rw [g]at s u
                 exact⟨_,_,_,rfl,s,u,lW mu h.n w.heap.size k.size n m F⟩
               | r::A::R,b,a,f=>
                 cases b
                 have g:(aV (r::A::R) m).length=m*i.size:=by rw [i7,<-f]
                 obtain⟨s,u⟩:=mr (w':={w with heap:=w.heap.push (.cells k e)}) H (l:=aV (r::A::R) m) (l':=k) (el:=e) a (eR w _) (t:=Tr.ofList (aV (r::A::R) m)) (Tr.sized_ofList _) (Tr.get_ofList _)
                 rw [g]at s u
                 exact⟨_,_,_,rfl,s,u,lW mu h.n w.heap.size k.size n m F⟩
             . simp [f]at b
         . have:(decide (n<=m)&&decide (m*(i.bytes+1)<=70368744177664))=false:=by
            rw [<-zt];simpa using o
           rw [this]at b;simp at b

theorem sL {mu : Mu} {h u:Hp} {w:World} (F:aD mu h w) {t:TypeId} {n:Nat} {c a:List (Nat×Value)} {v:Value} (b:ib E h t n c=some (u,v)) (G:PL mu c a):
 ∃v' g w',(Instr.buildSlice t n a.toArray).run P w=.ok v' w'/\aD g u w'/\Ext mu h w g u w'/\aq g v v':=by
 unfold ib at b
 cases x:E.und t with
 |none=>simp [x]at b
 | some d=>
   simp only [x]at b
   cases d<;>(try simp only []at b)<;>try (cases b;done)
   rename_i e
   cases y:E.sz e with
   |none=>simp [y]at b
   | some k=>
     simp only [y,dj]at b
     by_cases B:n*k<=16777216
     . simp only [B,decide_true,cond_true]at b
       cases A:E.zero e with
       |none=>simp [A]at b
       | some p =>
         simp only [A,a9]at b
         by_cases f:p.length=k
         . simp only [f,decide_true,cond_true]at b
           cases hf:fZ (fun i=>some (i*k,k)) (aV p n) c with
           |none=>simp [hf]at b
           | some C=>
             simp only [hf]at b
             cases b
             obtain⟨z,H,I,Q,J⟩:=jW ok A w
             have m:=tP (mu:=mu) I J n
             obtain⟨s,D,K⟩:=pz (place':=fun i=>some (i*k,k)) (fun i r L=>L) hf m G
             have o:(Instr.buildSlice t n a.toArray).run P w=.ok (.slice (some ⟨w.heap.size,0,none⟩) n n) {w with heap:=w.heap.push (.cells s e)}:=by
              unfold Instr.buildSlice
              simp only [Sem.run_bind,aN ok x,Result.andThen_ok,du ok y]
              rw [if_neg (by omega)]
              by_cases j:n*k=0
              . have M: ∀q:Array Value,(zI (n*k)).map (q[· %q.size]!)=(zI (n*p.length)).map (z.cells[· %z.cells.size]!):=by
                 intro q;rw [f,j];simp
                rw [if_pos j]
                simp only [Sem.run_bind,Sem.run_pure,Result.andThen_ok]
                rw [M,D]
                simp [newRow]
              . rw [if_neg j]
                simp only [Sem.run_bind,H,Result.andThen_ok,Sem.run_pure]
                rw [show n*k=n*p.length by rw [f],D]
                simp [newRow]
             rw [o]
             obtain⟨N,O⟩:=mr (w':={w with heap:=w.heap.push (.cells s e)}) F (l:=C) (l':=s) (el:=e) K (eR w _) (t:=Tr.ofList C) (Tr.sized_ofList _) (Tr.get_ofList _)
             exact⟨_,_,_,rfl,N,O,lW mu h.n w.heap.size s.size n n (zo _)⟩
         . simp [f]at b
     . simp [B]at b
end
end Go.Ab

namespace Go.Ab
section
variable{E:Env}{P:Program}(ok:EOk E P)

theorem xX{d:Tr Value}{b off m:Nat}{new:List Value}{t2:Tr Value}{s2:Nat}(e:d.Sized b)(h:i6 d b off m new=some (t2,s2)):
 off+m<=b/\s2=m+new.length/\t2.Sized s2/\(∀i,i<m->t2.get i=d.get (off+i))/\ ∀i,m<=i->t2.get i=new[i-m]? :=by
 unfold i6 at h
 rw [a9,a9]at h
 by_cases f:off=0/\m=b
 . obtain⟨rfl,rfl⟩:=f
   simp only [decide_true,zx,cond_true]at h
   cases h
   refine⟨by omega,rfl,Tr.sized_pushAll _ e,fun i c=>?_,fun i c=>?_⟩
   . rw [Tr.get_pushAll _ _ _ e,if_pos c,zC]
   . rw [Tr.get_pushAll _ _ _ e,if_neg (by omega)]
 . have:(decide (off=0)&&decide (m=b))=false:=by
    rw [<-zt];simpa using f
   rw [this,dj]at h
   simp only [cond_false]at h
   by_cases hle:off+m<=b
   . simp only [hle,decide_true,cond_true]at h
     cases a:d.slice off m with
     |none=>simp [a]at h
     | some j=>
       simp only [a]at h
       cases h
       obtain⟨g,k⟩:=Tr.slice_spec a
       refine⟨hle,by rw [List.length_append,g],Tr.sized_ofList _,fun i c=>?_,fun i c=>?_⟩
       . rw [Tr.get_ofList,zk (by omega),k i c]
       . rw [Tr.get_ofList,zu (by omega),g]
   . simp [hle]at h

theorem oU{mu:Mu}{a g:Addr}{cap cap':Nat}(b:da mu a cap g cap')(l:cap≠0):dA mu a g:=by
 unfold da at b
 unfold dA
 cases d:mu a.block with
 |none=>rw [d]at b;exact b.elim
 |dead=>trivial
 | blk c e k=>
   rw [d]at b
   cases f:a.spot with
   |none=>rw [f]at b;exact b.2
   | some q=>
     rw [f]at b
     simp only []at b⊢
     obtain⟨_,i,j,_,h⟩:=b
     have:g.off=e+a.off:=by rcases h with h|h<;>omega
     cases g;simp at i j this;simp [i,j,this]

theorem iS {mu:Mu} {h:Hp} {w:World} (p:aD mu h w) {a f:Addr} {len cap cap' k:Nat} (q:len<=cap) (r:da mu a cap f cap') {l:List Value} (b:h.load a.block a.off (len*k)=some l):
 l.length=len*k/\ ∃l',VL mu l l'/\ ∀c:World,c.heap=w.heap->(Builtin.firstCells k len (.slice (some f) len cap')).run P c=.ok l'.toArray c:=by
 by_cases s:cap=0
 . have :len=0:=by omega
   subst this
   have u:l.length=0:=by
    unfold Hp.load at b
    cases m:h.get a.block with
    |none=>simp [m]at b
    | some x=>
      simp only [m]at b
      cases x<;>(try simp only []at b)<;>try (cases b;done)
      rename_i t v el B
      rw [dj]at b
      by_cases e:a.off+0*k<=v
      . simp only [e,decide_true,cond_true]at b
        have:=(Tr.slice_spec b).1;simpa using this
      . rw [decide_eq_false e]at b;cases b
   have:l=[]:=by cases l<;>simp_all
   subst this
   exact⟨by simp,[],LR.nil,fun c _=>by simp [Builtin.firstCells,loadCells,loadCellsFrom]⟩
 . have i:=oU r s
   obtain⟨n,l',o,y⟩:=rL p i b
   refine⟨n,l',o,fun c z=>?_⟩
   have d: ∀(j:Nat) g,l'[j]? =some g->c.cell? (f.add j)=some g:=by
    intro j g A;rw [<-y j g A];simp only [World.cell?,z]
   have:=run_loadCells_list (P:=P) c f l' d
   rw [show l'.length=len*k by rw [<-o.1];exact n]at this
   simp [Builtin.firstCells,this]

theorem wE{mu:Mu}{h:Hp}{w:World}(o:aD mu h w){k n:Nat}{x x':Value}{new:List Value}(c:aL h k x=some (n,new))(p:aq mu x x'):
 new.length=n*k/\(∀d:World,(Builtin.lenOf x').run P d=.ok n d)/\ ∃new',VL mu new new'/\ ∀d:World,d.heap=w.heap->(Builtin.firstCells k n x').run P d=.ok new'.toArray d:=by
 unfold aL at c
 cases p<;>(try simp only []at c)<;>try (cases c;done)
 . rename_i s
   rw [a9]at c
   by_cases j:k=1
   . subst j
     simp only [decide_true,cond_true]at c
     cases c
     refine⟨by simp [az],fun d=>rfl,(az s).map fun b=>.int .u8 (.ofNat b.toNat),LR.mapSame _ fun b=>.int _ _,fun d _=>?_⟩
     simp only [Builtin.firstCells,Sem.run_pure]
     congr 1
     apply zQ
     simp [az]
   . simp [j]at c
 . cases c
   exact⟨by simp,fun d=>rfl,[],LR.nil,fun d _=>rfl⟩
 . rename_i a y f q m g i
   cases e:h.load a.block a.off (f*k)with
   |none=>simp [e]at c
   | some l=>
     simp only [e]at c
     cases c
     obtain⟨r,t,u,v⟩:=iS (P:=P) o g i e
     exact⟨r,fun d=>rfl,t,u,v⟩

theorem hrel_move{mu:Mu}{h:Hp}{w w':World}(z:aD mu h w){b c base top base2:Nat}{o:Obj}{x:Blk}(A:mu b=.blk c base top)
 (C: ∀t D el,h.get b≠some (.cells t D el 0)) (L:WSet w w' c o) (R:jh (upd mu b .dead) x base2 top o):
 aD (upd (upd mu b .dead) h.n (.blk c base2 top)) ((h.put b .dead).new x) w'/\Ext mu h w (upd (upd mu b .dead) h.n (.blk c base2 top)) ((h.put b .dead).new x) w':=by
 obtain⟨p,n⟩:=lD z A C L
 have F:=z.lt b (by rw [A];simp)
 have q:(h.put b .dead).n=h.n:=rfl
 have hle:Le (upd mu b .dead) (upd (upd mu b .dead) h.n (.blk c base2 top)):=by
  intro f j;left;exact aB _ _ (by have:=p.lt f j;rw [q]at this;omega)
 have k:=(h.put b .dead).get_new x p.sized
 have l: ∀f d i,upd mu b .dead f≠ .blk c d i:=by
  intro f d i a
  have u:f≠b:=by intro e;subst e;rw [upd_same]at a;cases a
  rw [aB _ _ u]at a
  exact u (z.inj f b c _ _ _ _ a A)
 refine⟨⟨Tr.sized_push x p.sized,?_,?_,?_,?_⟩,?_⟩
 . intro f s d i a
   by_cases g:f=h.n
   . subst g
     rw [upd_same]at a
     cases a
     exact⟨x,o,by rw [k,q];simp,L.at_,R.mono hle⟩
   . rw [aB _ _ g]at a
     obtain⟨y,S,r,m,T⟩:=p.blk f s d i a
     exact⟨y,S,by rw [k,q,if_neg g];exact r,m,T.mono hle⟩
 . intro f a
   by_cases g:f=h.n
   . subst g;rw [upd_same]at a;cases a
   . rw [aB _ _ g]at a;rw [k,q,if_neg g];exact p.dead f a
 . intro M G s H N B O r m
   by_cases I:M=h.n
   . by_cases v:G=h.n
     . rw [I,v]
     . subst I;rw [upd_same]at r;rw [aB _ _ v]at m;cases r;exact absurd m (l _ _ _)
   . rw [aB _ _ I]at r
     by_cases v:G=h.n
     . subst v;rw [upd_same]at m;cases m;exact absurd r (l _ _ _)
     . rw [aB _ _ v]at m;exact p.inj M G s _ _ _ _ r m
 . intro f a
   show f<h.n+1
   by_cases g:f=h.n
   . omega
   . rw [aB _ _ g]at a;have:=p.lt f a;rw [q]at this;omega
 . refine⟨by show h.n<=h.n+1;omega,?_,?_,n.lo,?_,n.frame,?_,n.wsize,n.os,n.tape,n.output,fun f r m=>by
    have U:f<h.n+1:=m
    have:f=h.n:=by omega
    subst this;rw [upd_same];simp⟩
   . intro f j
     rw [aB _ _ (by omega)];exact n.old f j
   . intro f s d i j a
     by_cases g:f=h.n
     . subst g;rw [upd_same]at a;cases a
       exact .inr ⟨b,base,top,F,A,by rw [aB _ _ (by omega)];exact upd_same _ _ _⟩
     . rw [aB _ _ g]at a
       exact absurd (p.lt f (by rw [a];simp)) (by rw [q];omega)
   . intro f j J
     rw [k,q,if_neg (by omega)];exact n.same f j J
   . intro f s d i t D el a K
     obtain⟨V,W,X⟩:=n.ro f s d i t D el a K
     have Q:=z.lt f (by rw [a];simp)
     exact⟨V,by rw [k,q,if_neg (by omega)];exact W,by rw [aB _ _ (by omega)];exact X⟩

theorem yj {n c:Nat} (h:c<n):Builtin.nextslicecap n c<=3*n:=by
 unfold Builtin.nextslicecap
 split
 . omega
 . split
   . omega
   . rename_i e f
     have a: ∀(r c:Nat),c<=n+(n+768)/4->Builtin.growBy n r c<=n+(n+768)/4:=by
      intro r
      induction r with
      |zero=>intro c b;exact b
      | succ r d=>
        intro c b
        simp only [Builtin.growBy]
        split
        . exact b
        . exact d _ (by omega)
     have:=a 4 c (by omega)
     omega
end
end Go.Ab

namespace Go.Ab
theorem uK{w:World}{c:Nat}{cs:Array Value}{el:TypeId}{b:Nat×Nat}(o:Nat)(vs:List Value)(h:w.heap[c]? =some (.cells cs el b)):
 ∃a,WSet w (w.setCells c o vs) c (.cells a el b)/\a.toList=bJ cs.toList o vs:=setCells_at c vs o w cs el b h
section
variable{E:Env}{P:Program}(ok:EOk E P)
include ok

omit ok in
theorem uf{t:TypeId}(h:dh E t=some false): ∃d,E.und t=some d/\(match d with| .int _=>true|_=>false)=false:=by
 unfold dh at h
 cases a:E.und t with
 |none=>simp [a]at h
 | some d=>
   simp only [a]at h
   exact⟨d,rfl,by cases d<;>simp at h<;>rfl⟩

theorem rB{mu:Mu}{h:Hp}{w:World}(B:aD mu h w){e:TypeId}{i:TypeInfo}{C:List Value}(H:E.zero e=some C)(r:C.length=i.size)
 {len n cap':Nat} {s' x':Value} {old' new':List Value} (I: ∀f:World,f.heap=w.heap->(Builtin.firstCells i.size len s').run P f=.ok old'.toArray f)
 (J: ∀f:World,f.heap=w.heap->(Builtin.firstCells i.size n x').run P f=.ok new'.toArray f) (D:old'.length=len*i.size) (F:new'.length=n*i.size)
 {t2:Tr Value} {s2:Nat} (K:t2.Sized s2) (s:s2=old'.length+new'.length) (l: ∀j v,t2.get j=some v-> ∃v',(old'++new')[j]? =some v'/\aq mu v v'):
 ∃ v' g w',((do
   let a<-choose (.appendCap (len+n) cap' e)
   askRoom (a*i.bytes)
   let t<-Builtin.firstCells i.size len s'
   let new<-Builtin.firstCells i.size n x'
   let rest:=Builtin.zeroCells (<-zeroValue e).cells (a-(len+n))
   pure (Value.slice (some (<-newRow e (t++new++rest))) (len+n) a):Sem Value)).run P w=.ok v' w'/\
   aD g (h.new (.cells t2 s2 e 1)) w'/\Ext mu h w g (h.new (.cells t2 s2 e 1)) w'/\aq g (.slice (some ⟨h.n,0,some i.size⟩) (len+n) (len+n)) v':=by
 obtain⟨z,L,M,U,V⟩:=jW ok H {w with drawn:=w.drawn+1}
 obtain⟨d,m⟩: ∃d,d=(Question.appendCap (len+n) cap' e).cut (w.tape w.drawn (.appendCap (len+n) cap' e)):=⟨_,rfl⟩
 have p:len+n<=d:=by rw [m];simp only [Question.cut];omega
 have u:z.cells.size=i.size:=by rw [<-r,<-M];rfl
 obtain⟨rest,b⟩: ∃rest,rest=Builtin.zeroCells z.cells (d-(len+n)):=⟨_,rfl⟩
 have y:rest.size=(d-(len+n))*i.size:=by rw [b];simp [Builtin.zeroCells,u]
 obtain⟨c,k⟩: ∃c,c=old'.toArray++new'.toArray++rest:=⟨_,rfl⟩
 have q:c.size=d*i.size:=by
  rw [k];simp only [Array.size_append,List.size_toArray,D,F,y]
  rw [<-zH,<-zH];congr 1;omega
 have A:s2<=c.size:=by
  rw [s,D,F,q,<-zH];exact zD _ p
 have N:aD mu h {w with drawn:=w.drawn+1}:=pX B rfl
 obtain⟨O,Q⟩:=j6 (x:=.cells t2 s2 e 1) (base:=0) (top:=c.size) (o:=.cells c e) N (eR {w with drawn:=w.drawn+1} (.cells c e)) ⟨c,e,(0,0),rfl,rfl,by omega,K,by
  intro j v R
  obtain⟨v',G,S⟩:=l j v R
  refine⟨v',?_,S⟩
  rw [zC,<-zj,k]
  simp only [zw]
  have T:j<(old'++new').length:=(List.getElem?_eq_some_iff.1 G).1
  rw [zk T];exact G,by intro _ j _ W;omega⟩
 refine⟨.slice (some ⟨w.heap.size,0,none⟩) (len+n) d,_,_,?_,O,(rC (w':={w with drawn:=w.drawn+1}) B rfl rfl rfl rfl).trans Q,?_⟩
 . have hf:(Question.appendCap (len+n) cap' e).forced=false:=rfl
   simp only [Sem.run_bind,run_choose,hf,zq,if_false,Result.andThen_ok,run_askRoom,I {w with drawn:=w.drawn+1} rfl,J {w with drawn:=w.drawn+1} rfl,L,<-m,<-b,newRow,run_newObj,Sem.run_pure,<-k]
 . exact uw mu h.n w.heap.size c.size (len+n) (len+n) d i.size (zo _) p (by rw [q];exact zo _)

theorem sD{ts:Array TypeId}{ty t k e:TypeId}{i:TypeInfo}{xs:Array Value}{x':Value}{base:Option Addr}{len cap' n:Nat}{w:World}(b:ts[0]? =some t)(c:ts[1]? =some k)(d:xs[0]? =some (.slice base len cap'))(f:xs[1]? =some x')
 (g:dh E k=some false) (l:E.und t=some (.slice e)) (m:E.ty e=some i) (o:(Builtin.lenOf x').run P w=.ok n w) (p:len+n<=cap'):
 (Builtin.append_ ts ty xs).run P w=((do
  let new<-Builtin.firstCells i.size n x'
  match base with
   |some a=>do storeCells (a.add (len*i.size)) new.toList;pure (Value.slice base (len+n) cap')
   |none=>pure (Value.slice base (len+n) cap'):Sem Value)).run P w:=by
 have h:E.sz e=some i.size:=by unfold Env.sz;rw [m]
 obtain⟨q,j,r⟩:=uf g
 unfold Builtin.append_
 simp only [b,c,d,f,Sem.run_bind,aN ok l,Result.andThen_ok,du ok h,aN ok j,Sem.run_pure]
 cases q<;>first
  |(simp at r;done)
  | (simp only [zq,if_false,Sem.run_bind,o,Result.andThen_ok,zG,if_true,if_pos p]
     cases base<;>rfl)
theorem nu{ts:Array TypeId}{ty t m e:TypeId}{i:TypeInfo}{xs:Array Value}{x':Value}{base:Option Addr}{len cap' n:Nat}{w:World}(b:ts[0]? =some t)(c:ts[1]? =some m)(d:xs[0]? =some (.slice base len cap'))(f:xs[1]? =some x')
 (g:dh E m=some false) (p:E.und t=some (.slice e)) (o:E.ty e=some i) (q:(Builtin.lenOf x').run P w=.ok n w) (y:0<i.bytes) (r: ¬len+n<=cap') (s: ¬Builtin.nextslicecap (len+n) cap'*i.bytes>2 ^48):
 (Builtin.append_ ts ty xs).run P w=((do
  let a<-choose (.appendCap (len+n) cap' e)
  askRoom (a*i.bytes)
  let j<-Builtin.firstCells i.size len (.slice base len cap')
  let new<-Builtin.firstCells i.size n x'
  let rest:=Builtin.zeroCells (<-zeroValue e).cells (a-(len+n))
  pure (Value.slice (some (<-newRow e (j++new++rest))) (len+n) a):Sem Value)).run P w:=by
 have k:E.sz e=some i.size:=by unfold Env.sz;rw [o]
 obtain⟨u,l,v⟩:=uf g
 have x: ¬(((len+n:Nat):Int)>IntKind.i64.max/\(False\/i.bytes=0)):=by rintro⟨_,h|h⟩;exact h;omega
 unfold Builtin.append_
 simp only [b,c,d,f,Sem.run_bind,aN ok p,Result.andThen_ok,du ok k,aN ok l,Sem.run_pure]
 cases u<;>first
  |(simp at v;done)
  | (simp only [zq,if_false,Sem.run_bind,q,Result.andThen_ok,zG,if_true,if_neg r,kH ok o,if_neg x,if_neg s,run_choose,show(Question.appendCap (len+n) cap' e).forced=false from rfl]
     try rfl)
theorem xP {mu : Mu} {h h' : Hp} {w : World} (F:aD mu h w) {ts:Array TypeId} {ty:TypeId} {xs:Array Value} {s s' x x' v:Value} (L:xs[0]? =some s') (M:xs[1]? =some x')
 (f:cV E h ts.toList s x=some (h',v)) (hs:aq mu s s') (hx:aq mu x x'):
 ∃v' z w',(Builtin.append_ ts ty xs).run P w=.ok v' w'/\aD z h' w'/\Ext mu h w z h' w'/\aq z v v':=by
 unfold cV at f
 cases N:ts.toList with
 |nil=>simp [N]at f
 | cons t be =>
   cases be with
   |nil=>simp [N]at f
   | cons tx bl =>
     have O:ts[0]? =some t:=by rw [<-zj,N];rfl
     have Q:ts[1]? =some tx:=by rw [<-zj,N];rfl
     simp only [N]at f
     cases u:dh E tx with
     |none=>simp [u]at f
     | some b =>
       cases b with
       |true=>simp [u]at f
       | false =>
         simp only [u]at f
         unfold iR at f
         cases hu:E.und t with
         |none=>simp [hu]at f
         | some d=>
           simp only [hu]at f
           cases d<;>(try simp only []at f)<;>try (cases f;done)
           rename_i e
           cases hi:E.ty e with
           |none=>simp [hi]at f
           | some i =>
             simp only [hi]at f
             have bf: ∃a len G,s=.slice a len G:=by
              cases s<;>simp at f<;>exact⟨_,_,_,rfl⟩
             obtain⟨a,len,G,rfl⟩:=bf
             simp only []at f
             cases R:aL h i.size x with
             |none=>simp [R]at f
             | some q=>
               obtain⟨n,A⟩:=q
               simp only [R]at f
               obtain⟨l1,l2,new',H,l4⟩:=wE (P:=P) F R hx
               unfold d9 at f
               rw [dj,dj,fC]at f
               have a1: ∃m cap',s'=.slice m len cap'/\G<=cap'/\len<=G:=by
                cases hs with
                |nils=>exact⟨none,0,rfl,zo _,zo _⟩
                |slice h1 B=>exact⟨some _,_,rfl,B.caps,h1⟩
               obtain⟨m,cap',rfl,bm,bn⟩:=a1
               by_cases D:len+n<=G
               . simp only [D,decide_true,cond_true]at f
                 rw [sD ok O Q L M u hu hi (l2 w) (by omega)]
                 have hf:=l4 w rfl
                 cases hs with
                 | nils=>
                   simp only []at f
                   cases f
                   have a2:n=0:=by omega
                   subst a2
                   exact⟨.slice none 0 0,mu,w,by simp [hf],F,Ext.refl mu h w F,.nils⟩
                 | slice h1 B=>
                   rename_i a m
                   simp only []at f
                   simp only [Sem.run_bind,hf,Result.andThen_ok]
                   cases A with
                   | nil=>
                     simp only []at f
                     cases f
                     rw [H.nil_left]
                     exact⟨.slice (some m) (len+n) cap',mu,w,by simp [storeCells],F,Ext.refl mu h w F,.slice D B⟩
                   | cons x0 xr=>
                     simp only []at f
                     have a2:n≠0:=by intro e;subst e;simp at l1
                     cases af:h.store a.block (a.off+len*i.size) (x0::xr)with
                     |none=>simp [af]at f
                     | some S=>
                       simp only [af]at f
                       cases f
                       have bh:=kV (oU B (by omega)) (len*i.size)
                       obtain⟨w',g1,g2,g3⟩:=pS (P:=P) (a:=dW a (len*i.size)) F bh af H
                       exact⟨.slice (some m) (len+n) cap',mu,w',by simp [g1],g2,g3,.slice D B⟩
               . simp only [D, decide_false,cond_false]at f
                 by_cases hb:(len+n)*(i.bytes+1)<=70368744177664/\0<i.bytes
                 . simp only [hb.1, hb.2,decide_true,zx,cond_true]at f
                   cases hz:E.zero e with
                   |none=>simp [hz]at f
                   | some zs =>
                     simp only [hz,a9]at f
                     by_cases T:zs.length=i.size
                     . simp only [T, decide_true,cond_true]at f
                       have C: ∀c,c<len+n-> ¬Builtin.nextslicecap (len+n) c*i.bytes>2 ^48:=by
                        intro c hc
                        have:=yj hc
                        have h3:Builtin.nextslicecap (len+n) c*i.bytes<=3*(len+n)*i.bytes:=zD _ this
                        have h4:(len+n)*i.bytes<=(len+n)*(i.bytes+1):=Nat.mul_le_mul_left _ (by omega)
                        rw [Nat.mul_assoc]at h3
                        have:(2:Nat) ^48=281474976710656:=rfl
                        omega
                       unfold mg at f
                       cases hs with
                       | nils=>
                         simp only [a9,decide_true,cond_true]at f
                         cases f
                         rw [nu ok O Q L M u hu hi (l2 w) hb.2 (by omega) (C 0 (by omega))]
                         have:=rB ok F (e:=e) (i:=i) hz T (len:=0) (n:=n) (cap':=0) (s':=.slice none 0 0) (x':=x') (old':=[]) (new':=new') (fun w2 _=>rfl) l4 (by simp) (by rw [<-H.1];exact l1) (t2:=Tr.ofList A) (s2:=A.length) (Tr.sized_ofList _) (by rw [H.1];simp) (by
                          intro j v r;rw [Tr.get_ofList]at r;exact H.get r)
                         obtain⟨v',z,w',g1,g2,g3,g4⟩:=this
                         exact⟨v',z,w',g1,g2,g3,by simpa using g4⟩
                       | slice h1 B=>
                         rename_i a m
                         simp only []at f
                         cases hg:h.get a.block with
                         |none=>simp [hg]at f
                         | some y =>
                           simp only [hg]at f
                           cases y<;>(try simp only []at f)<;>try (cases f;done)
                           rename_i tr sz el md
                           cases ai:i6 tr sz a.off (len*i.size) A with
                           |none=>simp [ai]at f
                           | some p =>
                             obtain⟨t2,s2⟩:=p
                             simp only [ai]at f
                             have bi: ∃c g I V J fz,mu a.block=.blk c g I/\w.heap[c]? =some (.cells V J fz)/\CRel mu tr sz md g I V fz:=by
                              unfold da at B
                              cases hm:mu a.block with
                              |none=>rw [hm]at B;exact B.elim
                              |dead=>have:=F.dead _ hm;rw [hg]at this;cases this
                              | blk c g I=>
                                obtain⟨y,o,k1,k2,k3⟩:=F.blk _ c g I hm
                                rw [hg]at k1;cases k1
                                obtain⟨V,J,fz,rfl,k4⟩:=k3
                                exact⟨c,g,I,V,J,fz,rfl,k2,k4⟩
                             obtain⟨c,g,I,V,J,fz,hm,hw,cr⟩:=bi
                             obtain⟨q1,q2,q3,q4,q5⟩:=xX cr.sized ai
                             -- the a3 cells
                             obtain⟨a3,aa⟩:=Tr.slice_mk (t:=tr) (i:=a.off) (n:=len*i.size) (fun k hk=>by
                              obtain⟨v,r⟩:=Tr.get_some cr.sized (show a.off+k<sz by omega);rw [r];rfl)
                             have ak:h.load a.block a.off (len*i.size)=some a3:=by
                              unfold Hp.load;rw [hg];simp only [dj,q1,decide_true,cond_true];exact aa
                             obtain⟨o1,old',o2,o3⟩:=iS (P:=P) F h1 B ak
                             have ac: ∀j v,t2.get j=some v-> ∃v',(old'++new')[j]? =some v'/\aq mu v v':=by
                              intro j v r
                              by_cases K:j<len*i.size
                              . rw [q4 j K,(Tr.slice_spec aa).2 j K]at r
                                obtain⟨v',W,X⟩:=LR.get o2 r
                                exact⟨v',by rw [zk (by rw [<-o2.1,o1];exact K)];exact W,X⟩
                              . rw [q5 j (by omega)]at r
                                obtain⟨v',W,X⟩:=LR.get H r
                                exact⟨v',by rw [zu (by rw [<-o2.1,o1];omega),<-o2.1,o1];exact W,X⟩
                             have a4:s2=old'.length+new'.length:=by rw [<-o2.1,<-H.1,o1];exact q2
                             cases Y:a.spot with
                             | none=>
                               simp only [Y]at f
                               cases f
                               have bo:cap'=G:=by
                                unfold da at B;rw [hm]at B;simp only [Y]at B;exact B.1
                               rw [nu ok O Q L M u hu hi (l2 w) hb.2 (by omega) (C cap' (by omega))]
                               exact rB ok F hz T o3 l4 (by rw [<-o2.1];exact o1) (by rw [<-H.1];exact l1) q3 a4 ac
                             | some k' =>
                               simp only [Y,a9]at f
                               by_cases hk:k'=i.size/\md≠0/\A.all iw=true
                               . obtain ⟨rfl,Z,al⟩:=hk
                                 simp only [Z,al,decide_true,decide_false,zG,zx,cond_true]at f
                                 cases f
                                 have a5: ∀t sz el,h.get a.block≠some (.cells t sz el 0):=by intro t bp J e;rw [hg]at e;cases e;exact Z rfl
                                 by_cases l:len+n<=cap'
                                 . -- it fits all the same
                                   rw [sD ok O Q L M u hu hi (l2 w) l]
                                   simp only [Sem.run_bind,l4 w rfl,Result.andThen_ok]
                                   have S:=B
                                   unfold da at S
                                   rw [hm]at S
                                   simp only [Y]at S
                                   obtain⟨s1,a6,s3,s4,s5⟩:=S
                                   have bq:(len+n)*i.size<=cap'*i.size:=zD _ l
                                   have bk:len*i.size+n*i.size=(len+n)*i.size:=(zH _ _ _).symm
                                   have br:new'.length=n*i.size:=by rw [<-H.1];exact l1
                                   have a7:=cr.whole
                                   have ba: ∀v∈new',v.oneCell'=true:=by
                                    intro v r
                                    obtain⟨j,K⟩:=List.mem_iff_getElem?.1 r
                                    have bb:j<A.length:=by rw [H.1];exact(List.getElem?_eq_some_iff.1 K).1
                                    have:=H.2 j _ v (zl bb) K
                                    refine this.flat ?_
                                    simp only [zn]at al
                                    exact al _ (zy bb)
                                   have ad:=run_storeCells_cells (P:=P) c (m.off+len*i.size) new' 0 w (fun j K=>by
                                    simp only [World.cell?,hw]
                                    simp
                                    omega) (fun j K=>by
                                    simp only [World.frozen?,hw]
                                    have:=cr.free Z (m.off+len*i.size+0+j) (by omega)
                                    simp only [zK,decide_eq_false_iff_not]
                                    by_cases hx:fz.1<=m.off+len*i.size+0+j
                                    . right;exact fun hy=>this ⟨hx,hy⟩
                                    . left;exact hx) ba
                                   rw [Nat.add_zero]at ad
                                   have bc:m.add (len*i.size)=⟨c,m.off+len*i.size,none⟩:=by rw [j7 _ _ s3,a6]
                                   obtain⟨an,ws,e2⟩:=uK (m.off+len*i.size) new' hw
                                   have a0:an.size=V.size:=by
                                    have:an.toList.length=V.toList.length:=by rw [e2,nC]
                                    simpa using this
                                   have hle:Le mu (upd mu a.block .dead):=by
                                    intro b' _
                                    by_cases U:b'=a.block
                                    . subst U;right;exact upd_same _ _ _
                                    . left;exact aB _ _ U
                                   obtain⟨g1,g2⟩:=hrel_move F (x:=.cells t2 s2 e 1) (base2:=m.off) hm a5 ws ⟨an,J,fz,rfl,by rw [a0];exact a7,by omega,q3,by
                                    intro j v r
                                    rw [<-zj,e2,wS _ _ _ _ (show m.off+len*i.size+new'.length<=V.toList.length by have:V.toList.length=V.size:=rfl;omega)]
                                    by_cases K:j<len*i.size
                                    . rw [if_neg (by omega)]
                                      rw [q4 j K]at r
                                      obtain⟨v',W,X⟩:=cr.get _ _ r
                                      have bd:m.off=g+a.off:=by
                                       rcases s5 with s5|s5
                                       . have:len=0:=by omega
                                         subst this;simp at K
                                       . exact s5
                                      exact⟨v',by rw [zj,bd,Nat.add_assoc];exact W,X.mono hle⟩
                                    . rw [q5 j (by omega)]at r
                                      obtain⟨v',W,X⟩:=LR.get H r
                                      have bs:j-len*i.size<new'.length:=(List.getElem?_eq_some_iff.1 W).1
                                      rw [if_pos (by omega),show m.off+j-(m.off+len*i.size)=j-len*i.size by omega]
                                      exact⟨v',W,X.mono hle⟩,fun _=>by
                                    intro j K;exact cr.free Z j (by omega)⟩
                                   refine⟨.slice (some m) (len+n) cap',_,_,?_,g1,g2,.slice (zo _) ?_⟩
                                   . simp only [bc,ad,Result.andThen_ok,Sem.run_pure]
                                   . unfold da;simp only [upd_same];exact⟨l,a6,s3,s4,by right;rfl⟩
                                 . rw [nu ok O Q L M u hu hi (l2 w) hb.2 l (C cap' (by omega))]
                                   have hle:Le mu (upd mu a.block .dead):=by
                                    intro b' _
                                    by_cases U:b'=a.block
                                    . subst U;right;exact upd_same _ _ _
                                    . left;exact aB _ _ U
                                   obtain⟨k1,k2⟩:=lD F hm a5 (w':=w) ⟨rfl,hw,fun _ _=>rfl,rfl,rfl,rfl⟩
                                   obtain⟨v',z,w',g1,g2,g3,g4⟩:=rB ok k1 hz T o3 l4 (by rw [<-o2.1];exact o1) (by rw [<-H.1];exact l1) q3 a4 (fun j v r=>by
                                    obtain⟨v',W,X⟩:=ac j v r;exact⟨v',W,X.mono hle⟩)
                                   exact⟨v',z,w',g1,g2,k2.trans g3,g4⟩
                               . have:(decide (k'=i.size)&& !decide (md=0)&&A.all iw)=false:=by
                                  rw [<-zt];simpa [and_assoc]using hk
                                 rw [this]at f;simp at f
                     . simp [T]at f
                 . have:(decide ((len+n)*(i.bytes+1)<=70368744177664)&&decide (0<i.bytes))=false:=by
                    rw [<-zt];simpa using hb
                   rw [this]at f;simp at f
end
end Go.Ab

namespace Go.Ab
section
variable{E:Env}{P:Program}(ok:EOk E P)
include ok

omit ok in
theorem n8(a b:Nat):dR a b=zL a b:=by
 unfold dR;rw [dj]
 by_cases h:a<=b
 . simp only [h,decide_true,cond_true];exact(Nat.min_eq_left h).symm
 . simp only [h,decide_false,cond_false];exact(Nat.min_eq_right (by omega)).symm
theorem copyV_run {mu:Mu} {h A:Hp} {w:World} (p:aD mu h w) {ts:Array TypeId} {ty:TypeId} {xs:Array Value} {s s' x x' v:Value} (B:xs[0]? =some s') (C:xs[1]? =some x')
 (c:copyV E h ts.toList s x=some (A,v)) (K:aq mu s s') (R:aq mu x x'):
 ∃v' i w',(Builtin.copy_ ts ty xs).run P w=.ok v' w'/\aD i A w'/\Ext mu h w i A w'/\aq i v v':=by
 unfold copyV at c
 cases j:ts.toList with
 |nil=>simp [j]at c
 | cons t S=>
   have D:ts[0]? =some t:=by rw [<-zj,j];rfl
   simp only [j]at c
   cases F:E.und t with
   |none=>simp [F]at c
   | some d =>
     simp only [F]at c
     cases d<;>(try simp only []at c)<;>try (cases c;done)
     rename_i e
     cases q:E.sz e with
     |none=>simp [q]at c
     | some k=>
       simp only [q]at c
       have G: ∃a len f,s=.slice a len f:=by
        cases s<;>simp at c<;>exact⟨_,_,_,rfl⟩
       obtain⟨a,len,f,rfl⟩:=G
       have r: ∃u g,s'=.slice u len g/\len<=f:=by
        cases K with
        |nils=>exact⟨none,0,rfl,zo _⟩
        |slice H L=>exact⟨some _,_,rfl,H⟩
       obtain⟨u,g,rfl,T⟩:=r
       unfold Builtin.copy_
       simp only [D,B,C,Sem.run_bind,aN ok F,Result.andThen_ok]
       simp only []at c
       cases R<;>(try simp only []at c)<;>try (cases c;done)
       . cases c
         refine⟨goInt 0,mu,w,?_,p,Ext.refl mu h w p,.int _ _⟩
         have:zL 0 len=0:=Nat.zero_min len
         cases u<;>simp [Builtin.lenOf,du ok q,Builtin.firstCells,this,storeCells]
       . rename_i b U m V I H L
         cases n:h.load b.block b.off (dR m len*k)with
         |none=>simp [n]at c
         | some l=>
           simp only [n]at c
           have J:dR m len<=V:=by rw [n8];exact Nat.le_trans (Nat.min_le_left m len) H
           obtain⟨M,N,O,W⟩:=iS (P:=P) p (len:=dR m len) J L n
           have Q:(Builtin.firstCells k (zL m len) (.slice (some U) m I)).run P w=.ok N.toArray w:=by
            rw [<-n8];exact W w rfl
           cases l with
           | nil=>
             simp only []at c
             cases c
             have:N=[]:=O.nil_left
             subst this
             refine⟨goInt (zL m len:Nat),mu,w,?_,p,Ext.refl mu h w p,by rw [n8];exact .int _ _⟩
             cases u<;>simp [Builtin.lenOf,du ok q,Q,storeCells]
           | cons y X=>
             simp only []at c
             cases a with
             |none=>simp at c
             | some a=>
               cases K with
               | slice q1 Y=>
                 rename_i u
                 simp only []at c
                 cases o:h.store a.block a.off (y::X)with
                 |none=>simp [o]at c
                 | some Z=>
                   simp only [o]at c
                   cases c
                   have z:f≠0:=by
                    intro e0
                    have:len=0:=by omega
                    subst this
                    rw [n8,show zL m 0=0 from Nat.min_zero m]at M;simp at M
                   obtain⟨w',g1,g2,g3⟩:=pS (P:=P) p (oU Y z) o O
                   refine⟨goInt (zL m len:Nat),mu,w',?_,g2,g3,by rw [n8];exact .int _ _⟩
                   simp [Builtin.lenOf,du ok q,Q,g1]

omit ok in
theorem xJ{mu:Mu}{l l':List Value}{r:List UInt8}(h:bytesOf l=some r)(e:VL mu l l')(s:ByteArray)(w:World)(m:String):
 (forIn l' s (fun c s=>match c with| .int .u8 n=>pure (ForInStep.yield (s.push (UInt8.ofNat n.toNat)))|_=>do stuck m;pure (ForInStep.yield s)):Sem ByteArray).run P w=.ok (eZ (az s++r)) w:=by
 induction l generalizing l' r s with
 | nil=>
   rw [e.nil_left]
   simp only [bytesOf]at h
   cases h
   simp [eZ,az]
 | cons x l f=>
   obtain⟨k,q,rfl,g,i⟩:=e.cons_left
   have: ∃n:Nat,x=.int .u8 (n:Int):=by
    unfold bytesOf at h
    split at h
    . rename_i a;cases a
    . rename_i n o a;injection a with j p;exact⟨n,j⟩
    . cases h
   obtain⟨n,rfl⟩:=this
   cases g
   have b:(match bytesOf l with|none=>none|some r=>some (UInt8.ofNat n::r))=some r:=h
   cases d:bytesOf l with
   |none=>simp [d]at b
   | some t=>
     simp only [d]at b
     cases b
     simp only [List.forIn_cons,Sem.run_bind,Sem.run_pure,Result.andThen_ok,Int.toNat_natCast]
     rw [f d i]
     simp [eZ,az]

omit ok in
theorem yw(w:World)(cs:Array Value)(e:TypeId):
 WNew w ({w with heap:=w.heap.push (.cells cs e)}.freeze {block:=w.heap.size,off:=cs.size} 1) (.cells cs e (cs.size,cs.size+1)):=by
 refine⟨?_,rfl,rfl,rfl⟩
 simp only [World.freeze,if_neg (show¬(1:Nat)=0 by omega)]
 apply Array.ext_getElem?
 intro j
 rw [zz,zO,zO]
 by_cases a:w.heap.size=j
 . subst a;simp
 . rw [if_neg a,if_neg (Ne.symm a),if_neg (Ne.symm a)]

theorem convV_run {mu:Mu} {h L:Hp} {w:World} (B:aD mu h w) {p g:TypeId} {x x' v:Value} (t:jK E h p g x=some (L,v)) (S:aq mu x x'):
 ∃v' y w',(convert p g x').run P w=.ok v' w'/\aD y L w'/\Ext mu h w y L w'/\aq y v v':=by
 unfold jK at t
 cases c:ct E p g with
 |none=>simp [c]at t
 | some q =>
   obtain⟨n,e⟩:=q
   unfold ct at c
   cases C:E.und p with
   |none=>simp [C]at c
   | some d =>
     simp only [C]at c
     have z:(∀e,d≠ .slice e)->n=0-> ∃v' y w',(convert p g x').run P w=.ok v' w'/\aD y L w'/\Ext mu h w y L w'/\aq y v v':=by
      intro T hn
      subst hn
      have U:ct E p g=some (0,e):=by unfold ct;simp only [C];exact c
      simp only [U]at t
      cases V:jR E g x with
      |none=>simp [V]at t
      | some u=>
        simp only [V]at t
        cases t
        obtain⟨W,X⟩:=convP_run ok C T V S w
        exact⟨_,mu,w,W,B,Ext.refl mu h w B,X⟩
     cases d<;>(try simp only []at c)<;>(try (cases c;exact z (by intro e Y;cases Y) rfl))
     case string=>
      cases i:E.und g with
      |none=>simp [i]at c
      | some Z=>
        simp only [i]at c
        cases Z<;>(try simp only []at c)<;>(try (cases c;exact z (by intro e Y;cases Y) rfl))
        rename_i M
        cases o:E.und M with
        |none=>simp [o]at c
        | some N=>
          simp only [o]at c
          have G:N=.int .u8/\n=2/\e=M:=by
           cases N<;>(try simp only []at c)<;>try (cases c;done)
           rename_i k
           cases k<;>(try simp only []at c)<;>try (cases c;done)
           cases c;exact⟨rfl,rfl,rfl⟩
          obtain⟨rfl,rfl,rfl⟩:=G
          have H:ct E p g=some (2,e):=by unfold ct;simp only [C,i,o]
          simp only [H]at t
          cases S<;>(try simp only []at t)<;>try (cases t;done)
          rename_i s
          rw [dj]at t
          by_cases O:s.size<=1099511627776
          . simp only [O,decide_true,cond_true,bytesV]at t
            cases t
            obtain⟨I,Q⟩: ∃I,I=(Question.appendCap s.size 0 e).cut (w.tape w.drawn (.appendCap s.size 0 e)):=⟨_,rfl⟩
            have aa:s.size<=I:=by rw [Q];simp only [Question.cut];omega
            obtain⟨A,J⟩: ∃A:Array Value,A=(s.data.map fun b=>Value.int .u8 b.toNat)++Array.replicate (I-s.size) (.int .u8 0):=⟨_,rfl⟩
            have ac:A.size=I:=by
             rw [J];simp only [Array.size_append,Array.size_map,Array.size_replicate]
             have:s.data.size=s.size:=rfl
             omega
            have T:aD mu h {w with drawn:=w.drawn+1}:=pX B rfl
            have ad:=yw {w with drawn:=w.drawn+1} A e
            have F:(az s).length=s.size:=rfl
            obtain⟨W,X⟩:=j6 (x:=.cells (Tr.ofList ((az s).map fun b=>.int .u8 (.ofNat b.toNat))) s.size e 1) (base:=0) (top:=A.size) T ad ⟨A,e,(A.size,A.size+1),rfl,rfl,by omega,by
             have:=Tr.sized_ofList ((az s).map fun b=>Value.int .u8 (.ofNat b.toNat));rwa [zJ,F]at this,by
             intro j v R
             rw [Tr.get_ofList]at R
             have hj:j<s.size:=by have:=(List.getElem?_eq_some_iff.1 R).1;rwa [zJ,F]at this
             refine⟨v,?_,?_⟩
             . rw [zC,<-zj,J]
               simp only [zw,zp]
               rw [zk (by rw [zJ];exact hj)]
               exact R
             . simp only [List.getElem?_map,Option.map_eq_some_iff]at R
               obtain⟨b,_,rfl⟩:=R
               exact .int _ _,by intro _ j hj S;omega⟩
            refine⟨.slice (some ⟨w.heap.size,0,none⟩) s.size I,_,_,?_,W,(rC (w':={w with drawn:=w.drawn+1}) B rfl rfl rfl rfl).trans X,?_⟩
            . have hf:(Question.appendCap s.size 0 e).forced=false:=rfl
              have D:World.shape? {w with drawn:=w.drawn+1,heap:=w.heap.push (.cells A e)} w.heap.size=some (e,A.size):=by
               simp [World.shape?]
              simp only [convert,Sem.run_bind,aN ok C,aN ok i,aN ok o,Result.andThen_ok,Conv.stringToBytes,run_choose,hf,zq,if_false,<-Q,newRow,run_newObj,Sem.run_pure,<-J,markStringish,run_shape,D,run_freeze]
            . exact uw mu h.n w.heap.size A.size s.size s.size I 1 (zo _) aa (by omega)
          . simp [O]at t
     case slice M=>
      cases i:E.und g with
      |none=>simp [i]at c
      | some Z =>
        simp only [i]at c
        cases Z<;>(try simp only []at c)<;>try (cases c;done)
        cases o:E.und M with
        |none=>simp [o]at c
        | some N =>
          simp only [o]at c
          have G:N=.int .u8/\n=1/\e=M:=by
           cases N<;>(try simp only []at c)<;>try (cases c;done)
           rename_i k
           cases k<;>(try simp only []at c)<;>try (cases c;done)
           cases c;exact⟨rfl,rfl,rfl⟩
          obtain⟨rfl,rfl,rfl⟩:=G
          have H:ct E p g=some (1,e):=by unfold ct;simp only [C,i,o]
          simp only [H]at t
          cases f:strOf h x with
          |none=>simp [f]at t
          | some u=>
            simp only [f]at t
            cases t
            unfold strOf at f
            cases S<;>(try simp only []at f)<;>try (cases f;done)
            . cases f
              refine⟨.string .empty,mu,w,?_,B,Ext.refl mu h w B,.string _⟩
              simp [convert,aN ok C,aN ok i,aN ok o,Conv.bytesToString]
            . rename_i a a' len ai af h1 h2
              cases K:h.load a.block a.off len with
              |none=>simp [K]at f
              | some l=>
                simp only [K]at f
                cases hb:bytesOf l with
                |none=>simp [hb]at f
                | some r=>
                  simp only [hb]at f
                  cases f
                  obtain⟨o1,l',o2,o3⟩:=iS (P:=P) B (len:=len) (k:=1) h1 h2 (by rw [zP];exact K)
                  have o4:=o3 w rfl
                  simp only [Builtin.firstCells,zP]at o4
                  have hf:=fun m=>xJ (P:=P) hb o2 ByteArray.empty w m
                  refine⟨.string (eZ r),mu,w,?_,B,Ext.refl mu h w B,.string _⟩
                  simp only [convert,Sem.run_bind,aN ok C,aN ok i,aN ok o,Result.andThen_ok,Conv.bytesToString,o4]
                  rw [List.forIn_toArray]
                  refine(congrArg (fun q=>Result.andThen q (fun a w'=>Sem.run P (pure (Value.string a)) w')) (hf _)).trans ?_
                  simp [az]

omit ok in
theorem za{mu:Mu}{f e:Value}{args:List Value}{args':Array Value}{i:cH}{h:Hp}{w:World}(a:target f args=some i)(hf:aq mu f e)(j:VL mu args args'.toList):
 Res P mu h w (do let d<-Deferred.ofValue e args';invoke d.target d.args) h i:=by
 unfold target at a
 cases hf<;>(try simp only []at a)<;>try (cases a;done)
 . rename_i g x k y l m n o p
   cases a
   refine⟨rfl,k++args'++l,by simp [Deferred.ofValue,invoke],?_⟩
   simp only [zw]
   exact LR.append (LR.append ⟨m,n⟩ j) ⟨o,p⟩
 . rename_i b c q
   simp at a
   subst a
   exact⟨rfl,c,args',by simp [Deferred.ofValue,invoke],q,j⟩

theorem aop_run {mu:Mu} {h W:Hp} {w:World} (H:aD mu h w) {ρ D:Operand->Value} (A: ∀x,aq mu (ρ x) (D x)) {o:Oper} {X:cH} (j:aop E ρ h o.op=some (X,W)):
 Res P mu h w (execOp D o) W X:=by
 have Y: ∀l:List Operand,VL mu (l.map ρ) (l.map D):=fun l=>LR.mapSame l A
 have T: ∀{v:Value},pop E ρ o.op=some v->Res P mu h w (execOp D o) h (.val v):=by
  intro v C
  obtain⟨Q,F,G⟩:=pop_run ok A C w
  exact⟨Q,mu,w,F,H,Ext.refl mu h w H,G⟩
 have wr: ∀{r:Option Value},bO h r=some (X,W)-> ∃v,r=some v/\X=.val v/\W=h:=by
  intro r L
  cases r with
  |none=>cases L
  |some v=>cases L;exact⟨v,rfl,rfl,rfl⟩
 have wv: ∀{r:Option (Hp×Value)},cw r=some (X,W)-> ∃v,r=some (W,v)/\X=.val v:=by
  intro r L
  cases r with
  |none=>cases L
  |some q=>obtain⟨a,b⟩:=q;cases L;exact⟨b,rfl,rfl⟩
 have wu: ∀{r:Option Hp},dK r=some (X,W)->r=some W/\X=.skip:=by
  intro r L
  cases r with
  |none=>cases L
  |some q=>cases L;exact⟨rfl,rfl⟩
 obtain⟨a1,op,R,pos,ak,guard⟩:=o
 simp only []at j T
 unfold execOp
 simp only []
 cases op
 case load t a=>
  obtain⟨v,C,rfl,rfl⟩:=wr j
  obtain⟨Q,F,G⟩:=ul ok H C (A a)
  exact⟨Q,mu,w,by simp [F],H,Ext.refl mu _ w H,G⟩
 case store t a x=>
  obtain⟨C,rfl⟩:=wu j
  obtain⟨J,F,G,K⟩:=yX ok H C (A a) (A x)
  exact⟨mu,J,by simp [F],G,K⟩
 case convert s d x=>
  obtain⟨v,C,rfl⟩:=wv j
  obtain⟨Q,M,J,F,G,K,Z⟩:=convV_run ok H C (A x)
  exact⟨Q,M,J,by simp [F],G,K,Z⟩
 case alloc e=>
  simp only [aop]at j
  cases hz:E.zero e with
  |none=>simp [hz]at j
  | some z=>
    simp only [hz]at j
    obtain⟨v,C,rfl⟩:=wv j
    cases C
    obtain⟨zv,z1,z2,z3,z4⟩:=jW ok hz w
    have L:VL mu z zv.cells.toList:=by
     rw [z2];exact LR.refl fun a I=>aq.const mu (by simp only [zn]at z4;exact z4 a I)
    obtain⟨F,G⟩:=mr H (el:=e) L (eR w (.cells zv.cells e)) (Tr.sized_ofList z) (Tr.get_ofList z)
    exact⟨.pointer (some ⟨w.heap.size,0,none⟩),_,_,by simp [Instr.alloc,z1,newVar,newRow],F,G,.ptr (tK mu h.n w.heap.size 0 _)⟩
 case box e x=>
  simp only [aop]at j
  have af: ∀y,ρ x≠ .chan y:=by intro y e;rw [e]at j;cases j
  have al:cw (some (oI h (ah (ρ x)) e))=some (X,W):=by
   revert j;cases L:ρ x<;>intro j<;>first|exact j|exact absurd L (af _)
  obtain⟨v,C,rfl⟩:=wv al
  cases C
  have L:=(A x).cells af
  obtain⟨F,G⟩:=mr H (el:=e) L (eR w (.cells (D x).cells e)) (Tr.sized_ofList _) (Tr.get_ofList _)
  exact⟨.pointer (some ⟨w.heap.size,0,none⟩),_,_,by simp [Instr.box,newVar,newRow],F,G,.ptr (tK mu h.n w.heap.size 0 _)⟩
 case buildSlice t n N=>
  obtain⟨v,C,rfl⟩:=wv j
  have hq:PL mu (N.toList.map fun p=>(p.1,ρ p.2)) (N.toList.map fun p=>(p.1,D p.2)):=LR.mapSame _ fun p=>⟨rfl,A p.2⟩
  obtain⟨Q,M,J,F,G,K,Z⟩:=sL ok H C hq
  have e:(N.map fun(x:Nat×Operand)=>(x.1,D x.2))=(N.toList.map fun p=>(p.1,D p.2)).toArray:=by
   apply zQ;simp
  refine⟨Q,M,J,?_,G,K,Z⟩
  simp only [Sem.run_bind]
  rw [e,F];rfl
 case makeSlice t l c=>
  obtain⟨v,C,rfl⟩:=wv j
  obtain⟨Q,M,J,F,G,K,Z⟩:=tB ok H C (A l) (A c)
  exact⟨Q,M,J,by simp [F],G,K,Z⟩
 case makeMap t r=>
  cases r with
  |some x=>simp only [aop]at j;obtain⟨v,C,rfl,rfl⟩:=wr j;cases C
  | none=>
    cases j
    obtain⟨F,G⟩:=j6 (x:=.map [] 0) (base:=0) (top:=0) H (eR w (.map #[] 0)) ⟨rfl,#[],rfl,LR.nil⟩
    exact⟨.map (some w.heap.size),_,_,by simp [Instr.makeMap],F,G,.map (by unfold cL;rw [upd_same];exact⟨rfl,rfl⟩)⟩
 case lookup t m k q=>
  obtain⟨v,C,rfl,rfl⟩:=wr j
  obtain⟨Q,F,G⟩:=xm ok H C (A m) (A k)
  exact⟨Q,mu,w,by simp [F],H,Ext.refl mu _ w H,G⟩
 case mapUpdate t m k x=>
  obtain⟨C,rfl⟩:=wu j
  obtain⟨J,F,G,K⟩:=rV ok H C (A m) (A k) (A x)
  exact⟨mu,J,by simp [F],G,K⟩
 case insert t m k x=>
  obtain⟨C,rfl⟩:=wu j
  obtain⟨J,F,G,K⟩:=rV ok H C (A m) (A k) (A x)
  exact⟨mu,J,by simp [F],G,K⟩
 case mapEntry t m k=>
  obtain⟨v,C,rfl⟩:=wv j
  obtain⟨Q,J,F,G,K,Z⟩:=yE ok H C (A m) (A k)
  exact⟨Q,mu,J,by simp [F],G,K,Z⟩
 case entryStore t m s x=>
  obtain⟨C,rfl⟩:=wu j
  obtain⟨J,F,G,K⟩:=wo (P:=P) (t:=t) H C (A m) (A s) (A x)
  exact⟨mu,J,by simp [F],G,K⟩
 case panic x=>
  simp only [aop]at j
  have hx:=A x
  revert j
  cases L:ρ x<;>intro j<;>(try simp only []at j)<;>try (cases j;done)
  cases j
  rw [L]at hx
  cases S:D x<;>rw [S]at hx<;>cases hx
  rename_i C
  exact⟨rfl,_,by simp only [S];rfl,.iface C⟩
 case defer c=>
  simp only [aop]at j
  obtain⟨O,B,u⟩:=c
  cases O<;>(try simp only []at j)<;>try (cases j;done)
  rename_i f
  have hx:=A f
  revert j
  cases L:ρ f<;>intro j<;>(try simp only []at j)<;>try (cases j;done)
  rename_i fn a b
  cases fn<;>(try simp only []at j)<;>try (cases j;done)
  rename_i g
  cases j
  rw [L]at hx
  cases S:D f<;>rw [S]at hx<;>cases hx
  rename_i a' b' h1 h2 h3 h4
  refine⟨rfl,{target:=.fn (.func g) b',args:=a'++B.map D},?_,?_⟩
  . simp only [resolve,S,Deferred.ofValue];simp
  . refine⟨b',rfl,⟨h3,h4⟩,?_⟩
    simp only [zw,zp]
    exact LR.append ⟨h1,h2⟩ (Y _)
 case call c=>
  obtain⟨O,B,u⟩:=c
  simp only [aop]at j
  cases O<;>(try simp only []at j)<;>try (cases j;done)
  case value f=>
   cases V:target (ρ f) (B.toList.map ρ)with
   |none=>simp [V]at j
   | some x=>
     simp only [V]at j
     cases j
     have:=za (P:=P) (h:=h) (w:=w) (args':=B.map D) V (A f) (by rw [zp];exact Y _)
     exact this
  case builtin b =>
   have U: ∀{x:Operand} {l:List Operand},B.toList=x::l->(B.map D)[0]? =some (D x):=by
    intro x l e;rw [<-zj,zp,e];rfl
   have aa: ∀{x y:Operand} {l:List Operand},B.toList=x::y::l->(B.map D)[1]? =some (D y):=by
    intro x y l e;rw [<-zj,zp,e];rfl
   have ac: ∀{v:Value},pop E ρ (.call ⟨.builtin b,B,u⟩)=some v->X=.val v->W=h->Res P mu h w (do let d<-resolve D ⟨.builtin b,B,u⟩ R;invoke d.target d.args) W X:=by
    intro v C e1 e2
    subst e1;subst e2
    exact T C
   cases b
   case append=>
    simp only []at j
    cases I:B.toList with
    |nil=>simp [I]at j
    | cons x l=>
      cases l with
      |nil=>simp [I]at j
      | cons y l=>
        simp only [I]at j
        obtain⟨v,C,rfl⟩:=wv j
        obtain⟨Q,M,J,F,G,K,Z⟩:=xP ok H (ty:=R) (U I) (aa I) C (A x) (A y)
        exact⟨Q,M,J,by simp [resolve,invoke,builtin,F],G,K,Z⟩
   case copy=>
    simp only []at j
    cases I:B.toList with
    |nil=>simp [I]at j
    | cons x l=>
      cases l with
      |nil=>simp [I]at j
      | cons y l=>
        simp only [I]at j
        obtain⟨v,C,rfl⟩:=wv j
        obtain⟨Q,M,J,F,G,K,Z⟩:=copyV_run ok H (ty:=R) (U I) (aa I) C (A x) (A y)
        exact⟨Q,M,J,by simp [resolve,invoke,builtin,F],G,K,Z⟩
   case delete=>
    simp only []at j
    cases V:u.toList with
    |nil=>simp [V]at j
    | cons t ts=>
      cases I:B.toList with
      |nil=>simp [V,I]at j
      | cons x l=>
        cases l with
        |nil=>simp [V,I]at j
        | cons y l=>
          simp only [V,I]at j
          cases hd:jN E h t (ρ x) (ρ y)with
          |none=>simp [hd]at j
          | some h2=>
            simp only [hd]at j
            cases j
            obtain⟨J,F,G,K⟩:=yy ok H (ty:=R) (ts:=u) (by rw [<-zj,V];rfl) (U I) (aa I) hd (A x) (A y)
            exact⟨.tuple #[],mu,J,by simp [resolve,invoke,builtin,F],G,K,.tuple rfl (by intro i v Q C;simp at C)⟩
   case recover=>
    simp only []at j
    cases j
    exact⟨rfl,by simp [resolve,invoke,builtin]⟩
   case len =>
    simp only []at j
    cases hp:pop E ρ (.call ⟨.builtin .len,B,u⟩)with
    |some v=>simp only [hp]at j;cases j;exact ac hp rfl rfl
    | none=>
      simp only [hp]at j
      cases I:B.toList with
      |nil=>simp [I]at j
      | cons x l =>
        simp only [I]at j
        have hx:=A x
        revert j
        cases L:ρ x<;>intro j<;>(try simp only []at j)<;>try (cases j;done)
        rename_i r
        cases r with
        |none=>simp at j
        | some r =>
          simp only []at j
          rw [L]at hx
          cases hg:h.get r with
          |none=>simp [hg]at j
          | some y=>
            simp only [hg]at j
            cases y<;>(try simp only []at j)<;>try (cases j;done)
            rename_i es an
            cases V:u.toList with
            |nil=>simp [V]at j
            | cons t ts=>
              simp only [V]at j
              cases hu:E.und t with
              |none=>simp [hu]at j
              | some d=>
                simp only [hu]at j
                cases d<;>(try simp only []at j)<;>try (cases j;done)
                cases j
                cases S:D x<;>rw [S]at hx<;>cases hx
                rename_i c a0
                obtain⟨top,ad,k1,k2,k3⟩:=sg H a0 hg
                have e0:u[0]? =some t:=by rw [<-zj,V];rfl
                have e1:=U I
                rw [S]at e1
                have ai:es.length=ad.size:=k3.1
                refine⟨.int .i64 ad.size,mu,w,?_,H,Ext.refl mu _ w H,by rw [ai];exact .int _ _⟩
                have:(Builtin.len_ u R (B.map D)).run P w=.ok (.int .i64 ad.size) w:=by
                 unfold Builtin.len_
                 simp only [e0,e1,Sem.run_bind,aN ok hu,Result.andThen_ok,gP k2]
                 rfl
                simp [resolve,invoke,builtin,this]
   all_goals (simp only []at j;obtain⟨v,C,e1,e2⟩:=wr j;exact ac C e1 e2)
 all_goals (simp only [aop]at j;obtain⟨v,C,rfl,rfl⟩:=wr j;exact T C)
end
end Go.Ab

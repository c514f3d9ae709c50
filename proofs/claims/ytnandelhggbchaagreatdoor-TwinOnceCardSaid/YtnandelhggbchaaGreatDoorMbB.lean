/- A deterministic evaluator of the model's code, and that the model follows it (part 2). -/
import Derived.Test.YtnandelhggbchaaGreatDoorMbA
import Derived.Laws.IdiomCopy
open Array renaming getElem?_toList->zM,toList_map->Xd,toList_append->Xh,getElem?_modify->Xk,toList_modify->Xn,range->Xq,getElem?_push->Xw,ext'->Xy
open List renaming getElem?_append_left->zN,getElem?_eq_getElem->Xa,all_eq_true->Xb,getElem?_append_right->Xg,getElem_mem->Xj,length_map->Xr,mem_of_getElem?->Xu
open Nat renaming le_refl->Xc,zero_add->Xl,mul_le_mul_right->Xm,add_mul->Xp,min->Xt,mul_one->Xx
open Bool renaming false_eq_true->Xe,not_eq_true->Xf,and_self->Xi,not_false->Xo,and_eq_false_iff->Xs,beq_comm->Xv
set_option maxHeartbeats 400000
set_option linter.defProp false
set_option linter.unusedVariables false
set_option linter.unusedSimpArgs false
namespace Go.Ab
section
variable{E:Env}{P:Program}(ok:EOk E P)
include ok
theorem pop_run{mu:Mu}{ρ g:Operand->Value}(f: ∀x,ao mu (ρ x) (g x)){o:Oper}{v:Value}(h:pop E ρ o.op=some v)(w:World):
 ∃v',(execOp g o).run P w=.ok (.value v') w/\ao mu v v':=by
 have A: ∀l:List Operand,VL mu (l.map ρ) (l.map g):=fun l=>LR.mapSame l f
 unfold execOp
 obtain⟨W,op,I,pos,R,guard⟩:=o
 simp only []at h⊢
 cases op<;>simp only [pop]at h<;>try (cases h;done)
 case move x=>cases h;exact⟨_,rfl,f x⟩
 case assign x=>cases h;exact⟨_,rfl,f x⟩
 case pick c a b=>
  have C:=f c
  cases J:ρ c<;>rw [J]at h C<;>(try simp only []at h)<;>try (cases h;done)
  rename_i t
  cases j:g c<;>rw [j]at C<;>cases C
  cases h
  cases t
  . exact⟨_,by simp [asBool,j],f b⟩
  . exact⟨_,by simp [asBool,j],f a⟩
 case nilCheck x=>
  have C:=f x
  cases J:ρ x<;>rw [J]at h C<;>(try simp only []at h)<;>try (cases h;done)
  . rename_i a
    cases a with
    |none=>simp at h
    | some a=>
      cases h
      cases j:g x<;>rw [j]at C<;>cases C
      rename_i X D
      exact⟨.pointer (some X),by simp only [j];rfl,.ptr D⟩
  . rename_i S a b
    cases S<;>(try simp only []at h)<;>try (cases h;done)
    cases h
    cases j:g x<;>rw [j]at C<;>cases C
    rename_i k n T Y
    exact⟨_,by simp only [j];rfl,.fn k n T Y⟩
 case binOp op t x y u=>
  obtain⟨k,n,T⟩:=binP_run ok h (f x) (f y) w
  exact⟨v,by simp [k,n],T⟩
 case unOp op t x=>
  obtain⟨k,n⟩:=unP_run (P:=P) h (f x) w
  exact⟨v,by simp [k],n⟩
 case makeInterface t x=>
  cases U:E.und t with
  |none=>simp [U]at h
  | some d=>
    simp only [U]at h
    cases d<;>(try simp only []at h)<;>try (cases h;done)
    all_goals (cases h;exact⟨.iface t (g x),by simp [Instr.makeInterface,aR ok U],.iface (f x)⟩)
 case makeFunc S a b=>
  cases S<;>(try simp only []at h)<;>try (cases h;done)
  cases h
  refine⟨_,rfl,.fn (by simp) ?_ (by simp) ?_⟩
  . have:=(A a.toList).2;simpa using this
  . have:=(A b.toList).2;simpa using this
 case slice t x l Z m=>
  obtain⟨v',k,n⟩:=AR ok h (f x) (OR.map f l) (OR.map f Z) (OR.map f m) w
  exact⟨v',by simp [k],n⟩
 case fieldAddr t x i=>
  obtain⟨v',k,n⟩:=uN ok h (f x) w
  exact⟨v',by simp [k],n⟩
 case field t x i=>
  obtain⟨v',k,n⟩:=AP ok h (f x) w
  exact⟨v',by simp [k],n⟩
 case indexAddr t x i=>
  obtain⟨v',k,n⟩:=u6 ok h (f x) (f i) w
  exact⟨v',by simp [k],n⟩
 case index t x i=>
  obtain⟨v',k,n⟩:=AF ok h (f x) (f i) w
  exact⟨v',by simp [k],n⟩
 case extract t i=>
  have C:=f t
  cases J:ρ t<;>rw [J]at h C<;>(try simp only []at h)<;>try (cases h;done)
  cases j:g t<;>rw [j]at C<;>cases C
  rename_i vs K k n
  obtain⟨v',G,L⟩:=LR.get (⟨k,n⟩:VL mu vs.toList K.toList) h
  have:K[i]? =some v':=by rw [<-zM];exact G
  exact⟨v',by simp only [Instr.extract,j,this];rfl,L⟩
 case build t B=>
  have hq:PL mu (B.toList.map fun p=>(p.1,ρ p.2)) (B.toList.map fun p=>(p.1,g p.2)):=LR.mapSame _ fun p=>⟨rfl,f p.2⟩
  obtain⟨v',k,n⟩:=Ah ok h hq w
  have e:(B.map fun(x:Nat×Operand)=>(x.1,g x.2))=(B.toList.map fun p=>(p.1,g p.2)).toArray:=by
   apply Xy;simp
  refine⟨v',?_,n⟩
  simp only [Sem.run_bind]
  rw [e,k];rfl
 case typeAssert x s t q=>
  obtain⟨v',k,n⟩:=zH ok (s:=s) h (f x) w
  exact⟨v',by simp [k],n⟩
 case call c=>
  obtain⟨F,r,z⟩:=c
  simp only []at h
  cases F<;>(try simp only []at h)<;>try (cases h;done)
  rename_i b
  cases b<;>(try simp only []at h)<;>try (cases h;done)
  case len=>
   cases Q:z.toList with
   |nil=>simp [Q]at h
   | cons t ts=>
     cases D:r.toList with
     |nil=>simp [Q,D]at h
     | cons x xs=>
       simp only [Q,D]at h
       obtain⟨k,n⟩:=lenP_run ok (ts:=z) (ty:=I) (xs:=r.map g) (by rw [Q];rfl) (by simp [D]) h (f x) w
       exact⟨v,by simp [resolve,invoke,builtin,k],n⟩
  case min=>
   cases D:r.toList.map ρ with
   |nil=>simp [D]at h
   | cons x l=>
     simp only [D]at h
     have M:=A r.toList
     rw [D]at M
     obtain⟨V,l',H,N,O⟩:=M.cons_left
     cases l with
     | nil=>
       simp only [fZ]at h
       cases h
       rw [O.nil_left]at H
       exact⟨V,by simp [resolve,invoke,builtin,Builtin.min_,H],N⟩
     | cons y l=>
       obtain⟨v',G,L⟩:=tV (P:=P) false h N O (by intro c e;subst e;simp [fZ]at h) w
       simp only [Xe,if_false]at G
       exact⟨v',by simp [resolve,invoke,builtin,Builtin.min_,H,G],L⟩
  case max=>
   cases D:r.toList.map ρ with
   |nil=>simp [D]at h
   | cons x l=>
     simp only [D]at h
     have M:=A r.toList
     rw [D]at M
     obtain⟨V,l',H,N,O⟩:=M.cons_left
     cases l with
     | nil=>
       simp only [fZ]at h
       cases h
       rw [O.nil_left]at H
       exact⟨V,by simp [resolve,invoke,builtin,Builtin.max_,H],N⟩
     | cons y l=>
       obtain⟨v',G,L⟩:=tV (P:=P) true h N O (by intro c e;subst e;simp [fZ]at h) w
       simp only [if_true]at G
       exact⟨v',by simp [resolve,invoke,builtin,Builtin.max_,H,G],L⟩
end
end Go.Ab

namespace Go.Ab

theorem yd(l:List Value)(off:Nat)(vs:List Value)(i:Nat)(h:off+vs.length<=l.length):
 (bS l off vs)[i]? =if off<=i/\i<off+vs.length then vs[i-off]? else l[i]? :=by
 induction vs generalizing l off with
 |nil=>simp only [bS,List.length_nil];rw [if_neg (by omega)]
 | cons v vs c=>
   simp only [bS,List.length_cons]at h⊢
   rw [c _ _ (by simp;omega)]
   by_cases a:off+1<=i/\i<off+1+vs.length
   . rw [if_pos a,if_pos (by omega),show i-off=(i-(off+1))+1 by omega];simp
   . rw [if_neg a,List.getElem?_set]
     by_cases b:off=i
     . subst b;rw [if_pos rfl,if_pos (by omega),if_pos (by omega)];simp
     . rw [if_neg b,if_neg (by omega)]

theorem setCells_at(c:Nat)(vs:List Value): ∀(o:Nat) (w:World) (cs:Array Value) (el:TypeId) (b:Nat×Nat),w.heap[c]? =some (.cells cs el b)->
 ∃a,WSet w (w.setCells c o vs) c (.cells a el b)/\a.toList=bS cs.toList o vs:=by
 induction vs with
 |nil=>intro o w cs el b h;exact⟨cs,⟨rfl,h,fun _ _=>rfl,rfl,rfl,rfl⟩,rfl⟩
 | cons v vs f=>
   intro o w cs el b h
   have g:(w.setCell ⟨c,o,none⟩ v).heap[c]? =some (.cells (cs.setIfInBounds o v) el b):=by
    simp [World.setCell,Xk,h]
   obtain⟨a,d,i⟩:=f (o+1) (w.setCell ⟨c,o,none⟩ v) _ el b g
   refine⟨a,⟨?_,d.at_,?_,d.os,d.tape,d.output⟩,?_⟩
   . show((w.setCell ⟨c,o,none⟩ v).setCells c (o+1) vs).heap.size=_
     rw [d.size];simp [World.setCell]
   . intro j e
     show((w.setCell ⟨c,o,none⟩ v).setCells c (o+1) vs).heap[j]? =_
     rw [d.other j e]
     simp only [World.setCell,Xk]
     rw [if_neg (Ne.symm e)]
   . rw [i];simp [bS]

section
variable{E:Env}{P:Program}

theorem ptr_at{mu:Mu}{h:Hp}{w:World}(e:aJ mu h w){a f:Addr}(b:eg mu a f){x:Blk}(g:h.get a.block=some x)(j:x≠ .dead):
 ∃c base top o,mu a.block=.blk c base top/\f=⟨c,base+a.off,none⟩/\w.heap[c]? =some o/\kp mu x base top o:=by
 unfold eg at b
 cases d:mu a.block with
 |none=>rw [d]at b;exact b.elim
 |dead=>have:=e.dead _ d;rw [g]at this;cases this;exact absurd rfl j
 | blk c base top=>
   rw [d]at b
   obtain⟨y,o,i,k,l⟩:=e.blk _ c base top d
   rw [g]at i;cases i
   exact⟨c,base,top,o,rfl,b,k,l⟩

theorem te {mu:Mu} {h:Hp} {w:World} (B:aJ mu h w) {a s:Addr} (m:eg mu a s) {n:Nat} {l:List Value} (f:h.load a.block a.off n=some l):
 l.length=n/\ ∃l',VL mu l l'/\(∀(j:Nat) v',l'[j]? =some v'->w.cell? (s.add j)=some v'):=by
 unfold Hp.load at f
 cases p:h.get a.block with
 |none=>simp [p]at f
 | some x=>
   simp only [p]at f
   cases x<;>simp only []at f<;>try (cases f;done)
   rename_i t y el L
   obtain⟨c,d,C,o,M,rfl,D,F⟩:=ptr_at B m p (by intro e;cases e)
   obtain⟨G,H,N,rfl,q⟩:=F
   rw [dK]at f
   by_cases z:a.off+n<=y
   . simp only [z,decide_true,cond_true]at f
     obtain⟨r,I⟩:=Tr.slice_spec f
     refine⟨r,(List.range n).map (fun j=>G.getD (d+(a.off+j)) default),?_,?_⟩
     . refine⟨by simp [r],fun i v v' g b=>?_⟩
       have A:i<n:=by rw [<-r];exact(List.getElem?_eq_some_iff.1 g).1
       have:=I i A
       rw [g]at this
       obtain⟨u,k,J⟩:=q.get _ _ this
       simp [A]at b
       rw [<-b,k];exact J
     . intro j v' b
       have K:j<n:=by
        have:=(List.getElem?_eq_some_iff.1 b).1;simpa using this
       simp [K]at b
       obtain⟨v,g⟩:=Tr.get_some q.sized (show a.off+j<y by omega)
       obtain⟨u,k,_⟩:=q.get _ _ g
       rw [k]at b
       rw [lK _ _ rfl]
       simp only [World.cell?,D]
       rw [show d+a.off+j=d+(a.off+j) by omega]
       simp [k,<-b]
   . simp [z]at f

theorem rB {mu:Mu} {h h':Hp} {w:World} (L:aJ mu h w) {a M:Addr} (F:eg mu a M) {l l':List Value} (d:h.store a.block a.off l=some h') (G:VL mu l l'):
 ∃w',(storeCells M l').run P w=.ok () w'/\aJ mu h' w'/\Ext mu h w mu h' w':=by
 unfold Hp.store at d
 cases D:h.get a.block with
 |none=>simp [D]at d
 | some x =>
   simp only [D]at d
   cases x<;>simp only []at d<;>try (cases d;done)
   rename_i t N el O
   obtain⟨c,b,T,o,U,rfl,H,V⟩:=ptr_at L F D (by intro e;cases e)
   obtain⟨n,u,I,rfl,p⟩:=V
   rw [dK,bN]at d
   by_cases Q:a.off+l.length<=N/\O≠0/\l.all iU=true
   . obtain⟨y,f,q⟩:=Q
     simp only [y,f,q,decide_true,decide_false,Xo,Xi,cond_true]at d
     cases d
     have z:=G.1
     have r:=p.fits
     have g:=p.whole
     obtain⟨k,W,J⟩:=setCells_at c l' (b+a.off) w n u I H
     have A: ∀v∈l',v.oneCell'=true:=by
      intro v s
      obtain⟨i,K⟩:=List.mem_iff_getElem?.1 s
      have B:i<l.length:=by rw [z];exact(List.getElem?_eq_some_iff.1 K).1
      have:=G.2 i _ v (Xa B) K
      refine this.flat ?_
      simp only [Xb]at q
      exact q _ (Xj B)
     have m:=run_storeCells_cells (P:=P) c (b+a.off) l' 0 w (fun j X=>by
      simp only [World.cell?,H]
      simp
      omega) (fun j X=>by
      simp only [World.frozen?,H]
      have:=p.free f (b+a.off+0+j) (by omega)
      simp only [Xs,decide_eq_false_iff_not]
      by_cases R:I.1<=b+a.off+0+j
      . right;exact fun Y=>this ⟨R,Y⟩
      . left;exact R) A
     rw [Nat.add_zero]at m
     refine⟨_,m,?_⟩
     refine tq L U ?_ W ?_
     . intro t' Z S e;rw [D]at e;cases e;exact f rfl
     . refine⟨k,u,I,rfl,?_,r,Tr.sized_setAll _ _ p.sized,?_,?_⟩
       . have:k.toList.length=n.toList.length:=by rw [J,pG]
         simpa [g]using this
       . intro i v s
         rw [Tr.get_setAll _ _ _ _ p.sized y]at s
         rw [<-zM,J,yd _ _ _ _ (show b+a.off+l'.length<=n.toList.length by have:n.toList.length=n.size:=rfl;omega)]
         by_cases C:a.off<=i/\i<a.off+l.length
         . rw [if_pos C]at s
           rw [if_pos (by omega),show b+i-(b+a.off)=i-a.off by omega]
           exact G.get s
         . rw [if_neg C]at s
           rw [if_neg (by omega),zM]
           exact p.get _ _ s
       . intro _ i K
         have:k.size=n.size:=by
          have:k.toList.length=n.toList.length:=by rw [J,pG]
          simpa using this
         exact p.free f i (by omega)
   . have:(decide (a.off+l.length<=N)&& !decide (O=0)&&l.all iU)=false:=by
      rw [<-Xf];simpa [and_assoc]using Q
     rw [this]at d;simp at d

theorem oh{mu:Mu}{h:Hp}{w w':World}(d:aJ mu h w){l:List Value}{l':Array Value}{el a:TypeId}(b:VL mu l l'.toList)(e:WNew w w' (.cells l' a)){t:Tr Value}(f:t.Sized l.length)(g: ∀i,t.get i=l[i]?):
 aJ (upd mu h.n (.blk w.heap.size 0 l'.size)) (h.new (.cells t l.length el 1)) w'/\Ext mu h w (upd mu h.n (.blk w.heap.size 0 l'.size)) (h.new (.cells t l.length el 1)) w':=by
 refine lW d e ⟨l',a,(0,0),rfl,rfl,?_,f,?_,?_⟩
 . have:=b.1;simp at this;omega
 . intro i v c
   rw [g]at c
   obtain⟨j,k,m⟩:=b.get c
   exact⟨j,by rw [Xl,<-zM];exact k,m⟩
 . intro _ i _ n;omega
theorem uV(mu:Mu)(b c base top:Nat):eg (upd mu b (.blk c base top)) ⟨b,0,none⟩ ⟨c,base,none⟩:=by
 unfold eg;rw [upd_same];simp
end
end Go.Ab

namespace Go.Ab
section
variable{E:Env}{P:Program}(ok:EOk E P)

theorem pC : ∀(l m:List Value) {r:Bool},cS l m=some r->(∀v∈l,mR v=true)/\(∀v∈m,mR v=true)/\l.length=m.length/\(r=true↔l=m):=by
 intro l
 induction l with
 | nil=>
   intro m r h
   cases m with
   |nil=>simp only [cS]at h;cases h;simp
   |cons b m=>simp [cS]at h
 | cons a l g=>
   intro m r h
   cases m with
   |nil=>cases a<;>simp [cS]at h
   | cons b m=>
     cases a<;>(try (simp [cS]at h;done))
     cases b<;>(try (simp [cS]at h;done))
     rename_i k x i y
     simp only [cS,fQ]at h
     by_cases f:k=i
     . subst f
       simp only [decide_true,cond_true]at h
       cases d:cS l m with
       |none=>simp [d]at h
       | some q=>
         rw [d]at h
         simp only []at h
         obtain⟨j,n,o,p⟩:=g m d
         refine⟨fun v c=>?_,fun v c=>?_,by simp [o],?_⟩
         . rcases List.mem_cons.1 c with rfl|c
           . rfl
           . exact j v c
         . rcases List.mem_cons.1 c with rfl|c
           . rfl
           . exact n v c
         . rw [gI]at h
           by_cases e:x=y
           . subst e
             simp at h
             subst h
             rw [p]
             simp
           . simp [e]at h
             subst h
             simp [e]
     . simp [f]at h
theorem zJ: ∀(l m:List Value) {r:Bool},cS l m=some r->cS m l=some r:=by
 intro l
 induction l with
 | nil=>
   intro m r h
   cases m with
   |nil=>exact h
   |cons b m=>simp [cS]at h
 | cons a l e=>
   intro m r h
   cases m with
   |nil=>cases a<;>simp [cS]at h
   | cons b m=>
     cases a<;>(try (simp [cS]at h;done))
     cases b<;>(try (simp [cS]at h;done))
     rename_i k x f y
     simp only [cS,fQ]at h⊢
     by_cases d:k=f
     . subst d
       simp only [decide_true,cond_true]at h⊢
       cases c:cS l m with
       |none=>simp [c]at h
       | some q=>
         rw [c]at h
         rw [e m c]
         simp only []at h⊢
         rw [gI]at h⊢
         rw [<-h,show(y==x)=(x==y)from Xv ..]
     . simp [d]at h
theorem sameBits_self{v:Value}(h:mR v=true)(n:Nat):Instr.sameBits n v v=true:=by
 cases v<;>simp only [mR]at h<;>(try (cases h;done))
 cases n<;>simp [Instr.sameBits]
theorem po{a b:Value}(h:bH a b=some true): ∀n,Instr.sameBits (n+1) a b=true:=by
 intro n
 unfold bH at h
 cases a<;>(try (simp at h;done))<;>cases b<;>(try (simp at h;done))
 . rename_i x y
   cases x<;>cases y<;>simp at h<;>rfl
 . rename_i k x g y
   simp only []at h
   rw [fQ,gI]at h
   by_cases d:k=g
   . subst d;simp at h;subst h;simp [Instr.sameBits]
   . simp [d]at h
 . rename_i s u
   simp only []at h
   rw [iR]at h
   simp at h
   have:s=u:=by cases s;cases u;simp [aF]at h;simp [h]
   subst this
   have i:(s==s)=true:=by show(s.data==s.data)=true;simp
   simp [Instr.sameBits,i]
 . rename_i x y
   simp only []at h
   obtain⟨j,_,_,m⟩:=pC _ _ h
   have e:x=y:=by
    have:=m.1 rfl
    cases x;cases y;simpa using this
   subst e
   simp only [Instr.sameBits,beq_self_eq_true,Bool.true_and,Xb]
   have: ∀(l:List Value),(∀v∈l,mR v=true)-> ∀p∈l.zip l,Instr.sameBits n p.1 p.2=true:=by
    intro l
    induction l with
    |nil=>intro _ p c;simp at c
    | cons v l o=>
      intro f p c
      rw [List.zip_cons_cons]at c
      rcases List.mem_cons.1 c with rfl|c
      . exact sameBits_self (f v (by simp)) n
      . exact o (fun u q=>f u (by simp [q])) p c
   exact this _ j
theorem tT{a b:Value}(t:Bool)(h:bH a b=some t):bH b a=some t:=by
 unfold bH at*
 cases a<;>(try (simp at h;done))<;>cases b<;>(try (simp at h;done))
 . rename_i x y;cases x<;>cases y<;>simp at h⊢ <;>exact h
 . rename_i k x d y
   simp only []at h⊢
   rw [fQ,gI]at*
   by_cases c:k=d
   . subst c;simp at h⊢;rw [<-h];exact Xv ..
   . simp [c]at h
 . simp only []at h⊢
   rw [iR]at*
   rw [<-h];congr 1;exact Xv ..
 . exact zJ _ _ h

def gp:TypeDesc->Bool
 | .array _ _=>true
 |_=>false
theorem qA{kt:TypeId}{k k':Value}{d:TypeDesc}{t:Bool}(e:gp d=false)(f:E.und kt=some d)(hf:aP E kt k=true)(h:bH k k'=some t):Instr.sameNow d k k'=some t:=by
 unfold aP at hf
 simp only [f]at hf
 unfold bH at h
 cases d<;>simp only []at hf<;>try (cases hf;done)
 . cases k<;>simp only []at hf<;>try (cases hf;done)
   cases k'<;>simp only []at h<;>try (cases h;done)
   rename_i a b;cases h;cases a<;>cases b<;>rfl
 . cases k<;>simp only []at hf<;>try (cases hf;done)
   cases k'<;>simp only []at h<;>try (cases h;done)
   rename_i g a i b
   rw [fQ,gI]at h
   by_cases c:g=i
   . subst c;simp at h;simp [Instr.sameNow,h]
   . simp [c]at h
 . cases k<;>simp only []at hf<;>try (cases hf;done)
   cases k'<;>simp only []at h<;>try (cases h;done)
   rename_i a b
   rw [iR]at h
   cases h
   simp only [Instr.sameNow]
   congr 1
   rw [show(a==b)=(a.data==b.data)from rfl,<-Array.beq_toList];rfl
 . cases e
theorem kH {kt e:TypeId} {k:Value} {n:Nat} (i:E.und kt=some (.array n e)) (hf:aP E kt k=true): ∃(cs:Array Value) (kd:IntKind),k=.agg cs/\E.agg e=some false/\E.sz e=some 1/\cs.toList.length=n/\E.und e=some (.int kd)/\ ∀v∈cs.toList,∃x,v=.int kd x:=by
 unfold aP at hf
 simp only [i]at hf
 cases k<;>simp only []at hf<;>try (cases hf;done)
 rename_i cs
 cases a:E.agg e with
 |none=>simp [a]at hf
 | some b=>
   cases b with
   |true=>simp [a]at hf
   | false =>
     cases f:E.sz e with
     |none=>simp [a,f]at hf
     | some s=>
       cases h:E.und e with
       |none=>simp [a,f,h]at hf
       | some d=>
         rw [a,f,h]at hf
         cases d<;>simp only []at hf<;>try (cases hf;done)
         rename_i kd
         simp only [bN]at hf
         by_cases c:s=1
         . by_cases g:cs.toList.length=n
           . simp only [c,g,decide_true,cond_true,Xb]at hf
             refine⟨cs,kd,rfl,rfl,by rw [c],g,rfl,fun v j=>?_⟩
             have:=hf v j
             cases v<;>simp only [isKd]at this<;>try (cases this;done)
             rename_i l x
             rw [fQ]at this
             simp at this
             subst this
             exact⟨x,rfl⟩
           . simp only [c,g,decide_true,decide_false,cond_true,cond_false]at hf
             cases hf
         . simp only [c,decide_false,cond_false]at hf
           cases hf
theorem fits_ok{kt:TypeId}{k:Value}(hf:aP E kt k=true):rY k=true:=by
 cases a:E.und kt with
 |none=>unfold aP at hf;simp [a]at hf
 | some d=>
   cases b:gp d with
   | true=>
     cases d<;>simp only [gp]at b<;>try (cases b;done)
     obtain⟨e,f,rfl,_,_,_,_,c⟩:=kH a hf
     simp only [rY,Xb]
     intro v h
     obtain⟨x,rfl⟩:=c v h
     rfl
   | false=>
     unfold aP at hf
     simp only [a]at hf
     cases d<;>simp only []at hf<;>(try (cases hf;done))<;>(try (cases b;done))<;>(cases k<;>simp only []at hf<;>(try (cases hf;done))<;>rfl)

include ok in
theorem iI {kt:TypeId} {k:Value} (hf:aP E kt k=true) (b:Bool) (w:World):(Instr.checkKey b 10000 kt k).run P w=.ok () w:=by
 cases f:E.und kt with
 |none=>unfold aP at hf;simp [f]at hf
 | some d=>
   show((Instr.checkKey b (9998+1+1) kt k)).run P w=_
   cases h:gp d with
   | true=>
     cases d<;>simp only [gp]at h<;>try (cases h;done)
     rename_i n e
     obtain⟨a,A,rfl,p,o,B,q,r⟩:=kH f hf
     unfold Instr.checkKey
     simp only [Sem.run_bind,aR ok f,Result.andThen_ok,dV ok o]
     have g: ∀i,i<n-> ∃v,(part e a (i*1)).run P w=.ok v w/\(Instr.checkKey b (9998+1) e v).run P w=.ok () w:=by
      intro i t
      have hlt:i<a.toList.length:=by omega
      obtain⟨x,u⟩:=r _ (Xj hlt)
      refine⟨a.toList[i],?_,?_⟩
      . unfold part
        have:a[i]? =some a.toList[i]:=by rw [<-zM,Xa hlt]
        rw [Xx]
        simp only [Sem.run_bind,rL ok p,Result.andThen_ok]
        simp only [this]
        rfl
      . rw [u]
        unfold Instr.checkKey
        simp only [Sem.run_bind,aR ok q,Result.andThen_ok]
        rfl
     have j: ∀(m i:Nat),i+m<=n->(forIn (List.range' i m) PUnit.unit (fun i _=>do
      let s<-sizeOf e
      let c<-part e a (i*s)
      Instr.checkKey b (9998+1) e c
      pure (ForInStep.yield PUnit.unit)):Sem PUnit).run P w=.ok PUnit.unit w:=by
      intro m
      induction m with
      |zero=>intro i _;simp
      | succ m l=>
        intro i t
        obtain⟨v,y,z⟩:=g i (by omega)
        simp only [List.range'_succ,List.forIn_cons,Sem.run_bind,dV ok o,y,z,Result.andThen_ok]
        simpa using l (i+1) (by omega)
     have:=j n 0 (by omega)
     simp only [Std.Legacy.Range.forIn_eq_forIn_range',Std.Legacy.Range.size]
     rw [show(n-0+1-1)/1=n by omega]
     simp at this⊢
     rw [this]
     rfl
   | false=>
     unfold aP at hf
     simp only [f]at hf
     unfold Instr.checkKey
     simp only [Sem.run_bind,aR ok f,Result.andThen_ok]
     cases d<;>simp only []at hf<;>(try (cases hf;done))<;>(try (cases h;done))
     all_goals (cases k<;>simp only []at hf<;>(try (cases hf;done))<;>rfl)

theorem elems_arr {e:TypeId} {kd:IntKind} (i:E.agg e=some false) (h4:E.und e=some (.int kd)): ∀(l m:List Value) {r:Bool},cS l m=some r->(∀v∈l,∃x,v=.int kd x)-> ∀(p q:List Value),p.length=q.length->lV E (dN E 39) e 1 (p++l) (q++m) l.length p.length=some r:=by
 intro l
 induction l with
 | nil=>
   intro m r h _ p q _
   cases m with
   |nil=>simp only [cS]at h;cases h;rfl
   |cons b m=>simp [cS]at h
 | cons a l n=>
   intro m r h j p q c
   obtain⟨x,rfl⟩:=j a (by simp)
   cases m with
   |nil=>simp [cS]at h
   | cons b m=>
     cases b<;>(try (simp [cS]at h;done))
     rename_i d y
     simp only [cS]at h
     have o:partOf E e (p++ .int kd x::l) (p.length*1)=some (.int kd x):=by
      unfold partOf;rw [i];simp
     have s:partOf E e (q++ .int d y::m) (p.length*1)=some (.int d y):=by
      unfold partOf;rw [i,c];simp
     cases f:jS kd d with
     |false=>rw [f]at h;simp at h
     | true=>
       rw [f]at h
       simp only [cond_true]at h
       have t:dN E 39 e (.int kd x) (.int d y)=some (gX x y):=by
        show dN E (38+1) e _ _=_
        unfold dN
        simp only [h4,f,cond_true]
       cases g:cS l m with
       |none=>simp [g]at h
       | some z=>
         rw [g]at h
         simp only []at h
         simp only [List.length_cons,lV,o,s,t]
         cases k:gX x y with
         |false=>rw [k]at h;simpa using h
         | true=>
           rw [k]at h
           simp only [cond_true]at h
           simp only []
           cases h
           have:=n m g (fun v u=>j v (by simp [u])) (p++[.int kd x]) (q++[.int d y]) (by simp [c])
           simpa using this
theorem ao.ints(mu:Mu){cs:Array Value}(h: ∀v∈cs.toList,mR v=true):ao mu (.agg cs) (.agg cs):=by
 refine .agg rfl fun i v c b a=>?_
 rw [b]at a
 cases a
 have:=h v (Xu b)
 cases v<;>simp only [mR]at this<;>try (cases this;done)
 exact .int _ _
include ok in
theorem wK{kt e:TypeId}{n:Nat}{k k':Value}{t:Bool}(mu:Mu)(c:E.und kt=some (.array n e))(hf:aP E kt k=true)(h:bH k k'=some t)(w:World):(Op.equal kt k k').run P w=.ok t w:=by
 obtain⟨a,p,rfl,d,f,g,i,j⟩:=kH c hf
 unfold bH at h
 cases k'<;>simp only []at h<;>try (cases h;done)
 rename_i b
 obtain⟨l,m,_,_⟩:=pC _ _ h
 have o:dN E 40 kt (.agg a) (.agg b)=some t:=by
  show dN E (39+1) kt (.agg a) (.agg b)=some t
  unfold dN
  simp only [c,f]
  have:=elems_arr d i a.toList b.toList h j [] [] rfl
  rw [g]at this
  exact this
 exact zc ok 40 Op.maxDepth (by decide) o (ao.ints mu l) (ao.ints mu m) w
theorem yi{mu:Mu}{kt:TypeId}{k:Value}{d:TypeDesc}(l:gp d=false)(m:E.und kt=some d)(hf:aP E kt k=true){c:List (Value×Value×Nat)}{es':List MapEntry}(g:kJ mu c es')
 (h:aN k c=some none) (i:Nat):Instr.findNow d k es' i=some none:=by
 induction c generalizing es' i with
 |nil=>rw [g.nil_left];rfl
 | cons e c o=>
   obtain⟨q,r,rfl,j,p⟩:=LR.cons_left g
   obtain⟨a,b,n⟩:=e
   simp only [aN]at h
   cases f:bH k a with
   |none=>simp [f]at h
   | some t=>
     cases t with
     |true=>simp [f]at h
     | false=>
       simp only [f]at h
       have:=qA l m hf f
       simp only []at j
       simp only [Instr.findNow,j.1,this]
       exact o p h _
include ok in
theorem xB{mu:Mu}{kt e:TypeId}{n:Nat}{k:Value}(j:E.und kt=some (.array n e))(hf:aP E kt k=true){c:List (Value×Value×Nat)}{es':List MapEntry}(f:kJ mu c es')
 (h:aN k c=some none) (i:Nat) (w:World):(Instr.findAsking kt k es' i).run P w=.ok none w:=by
 induction c generalizing es' i with
 |nil=>rw [f.nil_left];rfl
 | cons x c l=>
   obtain⟨q,r,rfl,g,o⟩:=LR.cons_left f
   obtain⟨a,b,m⟩:=x
   simp only [aN]at h
   cases d:bH k a with
   |none=>simp [d]at h
   | some t=>
     cases t with
     |true=>simp [d]at h
     | false=>
       simp only [d]at h
       simp only []at g
       have p:=wK ok mu j hf d w
       simp only [Instr.findAsking,Sem.run_bind,g.1,p,Result.andThen_ok]
       simpa using l o h (i+1)
theorem sG{d:TypeDesc}{kt:TypeId}{k:Value}(a:gp d=true)(b:E.und kt=some d)(hf:aP E kt k=true)(x:MapEntry)(c:List MapEntry)(i:Nat):Instr.findNow d k (x::c) i=none:=by
 cases d<;>simp only [gp]at a<;>try (cases a;done)
 obtain⟨e,f,rfl,_⟩:=kH b hf
 rfl
include ok in
theorem ln{mu:Mu}{kt:TypeId}{k:Value}{d:TypeDesc}(a:E.und kt=some d)(hf:aP E kt k=true){c:List (Value×Value×Nat)}{es':List MapEntry}(e:kJ mu c es')
 (h:aN k c=some none) (w:World):(Instr.findKey kt k es').run P w=.ok none w:=by
 unfold Instr.findKey
 simp only [Sem.run_bind,aR ok a,Result.andThen_ok]
 cases b:gp d with
 |false=>rw [yi b a hf e h 0];rfl
 | true=>
   cases es' with
   |nil=>rfl
   | cons x es'=>
     rw [sG b a hf]
     cases d<;>simp only [gp]at b<;>try (cases b;done)
     exact xB ok a hf e h 0 w
include ok in
theorem find_some{mu:Mu}{kt:TypeId}{k:Value}{d:TypeDesc}(s:E.und kt=some d)(hf:aP E kt k=true){p:List (Value×Value×Nat)}{es':List MapEntry}(B:kJ mu p es')
 {v:Value} {n:Nat} (h:aN k p=some (some (v,n))) (w:World) (i:Nat):
 ∃ j l,es'[j]? =some l/\(gp d=false->Instr.findNow d k es' i=some (some (i+j,l.val)))/\(gp d=true->(Instr.findAsking kt k es' i).run P w=.ok (some (i+j,l.val)) w)/\ao mu v l.val/\l.born=n/\bH k l.key=some true/\
   (∀q f,ao mu q f->kJ mu (iE k q p) (es'.set j {l with key:=k,val:=f}))/\kJ mu (jE k p) (es'.eraseIdx j):=by
 have ask:gp d=true-> ∀{a:Value} {t:Bool},bH k a=some t->(Op.equal kt k a).run P w=.ok t w:=fun A a t c=>by
  cases d<;>simp only [gp]at A<;>try (cases A;done)
  exact wK ok mu s hf c w
 induction p generalizing es' i with
 |nil=>simp [aN]at h
 | cons e p C=>
   obtain⟨l,r,rfl,g,u⟩:=LR.cons_left B
   obtain⟨a,b,m⟩:=e
   simp only [aN]at h
   simp only []at g
   cases c:bH k a with
   |none=>simp [c]at h
   | some t=>
     cases t with
     | true=>
       simp only [c]at h
       cases h
       have x:rY k=true:=fits_ok hf
       refine⟨0,l,rfl,fun o=>by simp [Instr.findNow,g.1,qA o s hf c],fun o=>by simp [Instr.findAsking,Sem.run_bind,g.1,ask o c],g.2.2.1,g.2.2.2,by rw [g.1];exact c,?_,?_⟩
       . intro q f y
         simp only [iE,c,List.set_cons_zero]
         exact LR.cons ⟨rfl,x,y,g.2.2.2⟩ u
       . simp only [jE,c,List.eraseIdx_zero];exact u
     | false=>
       simp only [c]at h
       obtain⟨j,D,F,G,z,H,I,J,K,L⟩:=C u h (i+1)
       refine⟨j+1,D,by simpa using F,fun o=>?_,fun o=>?_,H,I,J,?_,?_⟩
       . simp only [Instr.findNow,g.1,qA o s hf c,G o];rw [show i+1+j=i+(j+1) by omega]
       . simp only [Instr.findAsking,Sem.run_bind,g.1,ask o c,Result.andThen_ok]
         rw [show i+(j+1)=i+1+j by omega]
         simpa using z o
       . intro q f y
         simp only [iE,c,List.set_cons_succ]
         exact LR.cons g (K q f y)
       . simp only [jE,c,List.eraseIdx_cons_succ]
         exact LR.cons g L
include ok in
theorem kY{mu:Mu}{kt:TypeId}{k:Value}{d:TypeDesc}(f:E.und kt=some d)(hf:aP E kt k=true){e:List (Value×Value×Nat)}{es':List MapEntry}(o:kJ mu e es')
 {v:Value} {n:Nat} (h:aN k e=some (some (v,n))) (w:World):
 ∃ j a,es'[j]? =some a/\(Instr.findKey kt k es').run P w=.ok (some (j,a.val)) w/\ao mu v a.val/\a.born=n/\bH k a.key=some true/\
   (∀i b,ao mu i b->kJ mu (iE k i e) (es'.set j {a with key:=k,val:=b}))/\kJ mu (jE k e) (es'.eraseIdx j):=by
 obtain⟨j,a,l,m,c,p,q,r,s,t⟩:=find_some ok f hf o h w 0
 refine⟨j,a,l,?_,p,q,r,s,t⟩
 unfold Instr.findKey
 simp only [Sem.run_bind,aR ok f,Result.andThen_ok]
 rw [Xl]at m c
 cases g:gp d with
 |false=>rw [m g];rfl
 | true=>
   cases es' with
   |nil=>simp at l
   |cons x es'=>rw [sG g f hf];exact c g
theorem AN{mu:Mu}{n:Nat}{v v':Value}(o:ao mu v v'){d es2:List (Value×Value×Nat)}{es':List MapEntry}(p:kJ mu d es')(h:fK n v d=some es2):
 ∃j f,es'.findIdx? (fun e=>(e.born:Int)==(n:Int))=some j/\es'[j]? =some f/\kJ mu es2 (es'.set j {f with val:=v'}):=by
 induction d generalizing es' es2 with
 |nil=>simp [fK]at h
 | cons e d q=>
   obtain⟨f,r,rfl,c,k⟩:=LR.cons_left p
   obtain⟨a,b,m⟩:=e
   simp only [fK,bN]at h
   simp only []at c
   by_cases g:m=n
   . subst g
     simp only [decide_true,cond_true]at h
     cases h
     refine⟨0,f,?_,rfl,?_⟩
     . simp [List.findIdx?_cons,c.2.2.2]
     . exact LR.cons ⟨c.1,c.2.1,o,c.2.2.2⟩ k
   . simp only [g,decide_false,cond_false]at h
     cases i:fK n v d with
     |none=>simp [i]at h
     | some l=>
       simp only [i]at h
       cases h
       obtain⟨j,s,t,u,w⟩:=q k i
       refine⟨j+1,s,?_,by simpa using u,?_⟩
       . have:((f.born:Int)==(n:Int))=false:=by rw [c.2.2.2];simp;omega
         simp [List.findIdx?_cons,this,t]
       . simp only [List.set_cons_succ];exact LR.cons c w
end
end Go.Ab

namespace Go.Ab

def kX(mu:Mu)(d e:Deferred):Prop:=match d.target with
 | .fn (.func f) g=> ∃a,e.target=.fn (.func f) a/\VL mu g.toList a.toList/\VL mu d.args.toList e.args.toList
 | .collected b=> ∃c,e.target=.collected c/\dp mu b c
 |_=>False

theorem qd{α:Type}{l:List α}{j:Nat}{e:α}(h:l[j]? =some e)(f:α->α):l.modify j f=l.set j (f e):=by
 apply List.ext_getElem?
 intro i
 rw [List.getElem?_modify,List.getElem?_set]
 by_cases a:j=i
 . subst a
   rw [if_pos rfl,if_pos (List.getElem?_eq_some_iff.1 h).1,h];simp
 . simp [a]

section
variable{E:Env}{P:Program}(ok:EOk E P)

def Res(P:Program)(mu:Mu)(h:Hp)(w:World)(s:Sem Next)(h':Hp):c8->Prop
 | .val v=> ∃j e i,s.run P w=.ok (.value j) i/\aJ e h' i/\Ext mu h w e h' i/\ao e v j
 | .skip=> ∃e i,s.run P w=.ok .skip i/\aJ e h' i/\Ext mu h w e h' i
 | .call f g=>h'=h/\ ∃a,s.run P w=(callFunc f a).run P w/\VL mu g a.toList
 | .yield b g=>h'=h/\ ∃c a,s.run P w=(Instr.yield c a).run P w/\dp mu b c/\VL mu g a.toList
 | .recov=>h'=h/\s.run P w=.ok .recover w
 | .defer d=>h'=h/\ ∃k,s.run P w=.ok (.defer k) w/\kX mu d k
 | .panic v=>h'=h/\ ∃j,s.run P w=.halt (.panic j) w/\ao mu v j

theorem yC{w:World}{r:Nat}{o:Obj}(h: ∃q,w.heap[r]? =some q):WSet w {w with heap:=w.heap.setIfInBounds r o} r o:=by
 obtain⟨q,a⟩:=h
 have b:r<w.heap.size:=(Array.getElem?_eq_some_iff.1 a).1
 refine⟨by simp,by simp [b],fun j c=>?_,rfl,rfl,rfl⟩
 show(w.heap.setIfInBounds r o)[j]? =_
 rw [Array.getElem?_setIfInBounds];rw [if_neg (Ne.symm c)]

theorem ux{mu:Mu}{h:Hp}{w:World}(f:aJ mu h w){b c:Nat}(d:dp mu b c){g:List (Value×Value×Nat)}{a:Nat}(i:h.get b=some (.map g a)):
 ∃top es',mu b=.blk c 0 top/\w.heap[c]? =some (.map es' a)/\kJ mu g es'.toList:=by
 unfold dp at d
 cases e:mu b with
 |none=>rw [e]at d;exact d.elim
 |dead=>have:=f.dead _ e;rw [i]at this;cases this
 | blk p j top=>
   rw [e]at d
   obtain⟨rfl,rfl⟩:=d
   obtain⟨y,o,k,l,m⟩:=f.blk _ c 0 top e
   rw [i]at k;cases k
   obtain⟨_,es',rfl,n⟩:=m
   exact⟨top,es',rfl,l,n⟩
theorem lS{mu:Mu}{h:Hp}{w:World}(f:aJ mu h w){b c top:Nat}{g es2:List (Value×Value×Nat)}{a clock2:Nat}(i:h.get b=some (.map g a))(j:mu b=.blk c 0 top)
 {es' es2':Array MapEntry} (d:w.heap[c]? =some (.map es' a)) (k:kJ mu es2 es2'.toList):
 (setObj c (.map es2' clock2)).run P w=.ok () {w with heap:=w.heap.setIfInBounds c (.map es2' clock2)}/\
 aJ mu (h.put b (.map es2 clock2)) {w with heap:=w.heap.setIfInBounds c (.map es2' clock2)}/\Ext mu h w mu (h.put b (.map es2 clock2)) {w with heap:=w.heap.setIfInBounds c (.map es2' clock2)}:=by
 refine⟨by simp [setObj,Sem.run,d],?_⟩
 exact tq f j (by intro t l el e;rw [i]at e;cases e) (yC ⟨_,d⟩) ⟨rfl,es2',rfl,k⟩
theorem iX{w:World}{c:Nat}{b:Array MapEntry}{a:Nat}(d:w.heap[c]? =some (.map b a)):(getObj c).run P w=.ok (.map b a) w:=by
 simp [getObj,Sem.run,d]

include ok
theorem vZ{mu:Mu}{h:Hp}{w:World}(p:aJ mu h w){t:TypeId}{x x' v:Value}(c:eJ E h t x=some v)(s:ao mu x x'):
 ∃v',(Instr.loadAt t x').run P w=.ok v' w/\ao mu v v':=by
 unfold eJ at c
 cases s<;>(try simp only []at c)<;>try (cases c;done)
 rename_i a j e
 unfold Instr.loadAt
 simp only [Instr.sureAddr,Sem.run_bind,Sem.run_pure,Result.andThen_ok]
 unfold loadVar
 cases g:E.agg t with
 |none=>simp [g]at c
 | some b=>
   simp only [Sem.run_bind,rL ok g,Result.andThen_ok]
   cases b with
   | true=>
     simp only [g]at c
     cases k:E.sz t with
     |none=>simp [k]at c
     | some n=>
       simp only [k]at c
       cases d:h.load a.block a.off n with
       |none=>simp [d]at c
       | some l=>
         simp only [d]at c
         cases c
         obtain⟨m,i,f,o⟩:=te p e d
         have:=run_loadCells_list (P:=P) w j i o
         have y:i.length=n:=by rw [<-f.1];exact m
         rw [y]at this
         exact⟨.agg i.toArray,by simp [dV ok k,this],.agg f.1 f.2⟩
   | false=>
     simp only [g]at c
     cases d:h.load a.block a.off 1 with
     |none=>simp [d]at c
     | some l=>
       simp only [d]at c
       obtain⟨m,i,f,o⟩:=te p e d
       match l,m with
       | [u],_=>
         simp only []at c
         cases c
         obtain⟨q,r,rfl,z,A⟩:=f.cons_left
         have:=o 0 q (by simp)
         rw [show j.add 0=j by simp [Addr.add]]at this
         exact⟨q,by simp [this],z⟩
theorem A9{mu:Mu}{h h':Hp}{w:World}(l:aJ mu h w){t:TypeId}{x x' v v':Value}(c:ii E h t x v=some h')(m:ao mu x x')(o:ao mu v v'):
 ∃w',(Instr.storeAt t x' v').run P w=.ok () w'/\aJ mu h' w'/\Ext mu h w mu h' w':=by
 unfold ii at c
 cases m<;>(try simp only []at c)<;>try (cases c;done)
 rename_i a s g
 cases i:E.sz t with
 |none=>simp [i]at c
 | some n=>
   simp only [i]at c
   have d: ∀y,v≠ .chan y:=by intro y e;subst e;simp at c
   have b:(bif Nat.beq (ah v).length n then h.store a.block a.off (ah v)else none)=some h':=by
    cases v<;>first|exact c|exact absurd rfl (d _)
   rw [bN]at b
   by_cases j:(ah v).length=n
   . simp only [j,decide_true,cond_true]at b
     have f:=o.cells d
     obtain⟨w',p,q,r⟩:=rB (P:=P) l g b f
     refine⟨w',?_,q,r⟩
     have k:v'.cells.size=n:=by rw [<-j];exact f.1.symm
     simp [Instr.storeAt,Instr.sureAddr,storeVar,dV ok i,k,p]
   . simp [j]at b

omit ok in
theorem qQ {mu:Mu} {kt:TypeId} {k k':Value} (hf:aP E kt k=true) (f:ao mu k k'):k'=k/\rY k=true/\ ∃kd,E.und kt=some kd:=by
 unfold aP at hf
 cases a:E.und kt with
 |none=>simp [a]at hf
 | some kd=>
   cases b:gp kd with
   | true=>
     cases kd<;>simp only [gp]at b<;>try (cases b;done)
     have c:=fits_ok (E:=E) (kt:=kt) (k:=k) (by unfold aP;exact hf)
     obtain⟨g,kd,rfl,_,_,_,_,j⟩:=kH a (by unfold aP;exact hf)
     refine⟨?_,c,_,rfl⟩
     cases f with
     | @agg _ d l m=>
       have:g.toList=d.toList:=by
        refine List.ext_getElem l fun i h e=>?_
        obtain⟨x,n⟩:=j _ (Xj h)
        have:=m i _ _ (Xa h) (Xa e)
        rw [n]at this⊢
        generalize d.toList[i]=u at this
        cases this;rfl
       cases g;cases d;simp at this;simp [this]
   | false=>
     simp only [a]at hf
     cases kd<;>simp only []at hf<;>(try (cases hf;done))<;>(try (cases b;done))<;>(cases f<;>simp only []at hf<;>(try (cases hf;done))<;>exact⟨rfl,rfl,_,rfl⟩)

theorem zw {mu:Mu} {h:Hp} {w:World} (L:aJ mu h w) {t:TypeId} {m I k k' v:Value} {q:Bool} (a:ce E h t m k q=some v) (M:ao mu m I) (N:ao mu k k'):
 ∃v',(Instr.lookup t I k' q).run P w=.ok v' w/\ao mu v v':=by
 unfold ce at a
 cases A:E.und t with
 |none=>simp [A]at a
 | some d=>
   simp only [A]at a
   cases d<;>simp only []at a<;>try (cases a;done)
   rename_i B el
   cases hf:aP E B k with
   |false=>simp [hf]at a
   | true=>
     simp only [hf,cond_true]at a
     have C:k'=k:=(qQ (E:=E) hf N).1
     subst C
     have o: ∀{z y:Value},ao mu z y-> ∀b,ao mu (bif q then .tuple #[z,.bool b]else z) (if q then .tuple #[y,.bool b]else y):=by
      intro z y l b
      cases q with
      |false=>exact l
      | true=>
        have:VL mu [z,.bool b] [y,.bool b]:=LR.cons l (LR.cons (.bool b) LR.nil)
        exact .tuple this.1 this.2
     obtain⟨s,e⟩: ∃s,E.und B=some s:=by
      unfold aP at hf
      cases e:E.und B with
      |none=>simp [e]at hf
      |some s=>exact⟨s,rfl⟩
     have g:(match E.zeroV el with|none=>none|some z=>some (bif q then .tuple #[z,.bool false]else z))=some v->
      ∃z,(zeroValue el).run P w=.ok z w/\ao mu v (if q then .tuple #[z,.bool false]else z):=by
      intro l
      cases i:E.zeroV el with
      |none=>simp [i]at l
      | some z=>
        simp only [i]at l
        cases l
        obtain⟨O,Q⟩:=oQ ok i w mu
        exact⟨z,O,o Q false⟩
     unfold Instr.lookup
     simp only [Sem.run_bind,aR ok A,Result.andThen_ok]
     cases M<;>(try simp only []at a)<;>try (cases a;done)
     . obtain⟨z,D,F⟩:=g a
       refine⟨_,?_,F⟩
       simp [iI ok hf,Instr.findKey,aR ok e,Instr.findNow,D]
     . rename_i b c R
       cases G:h.get b with
       |none=>simp [G]at a
       | some x=>
         simp only [G]at a
         cases x<;>simp only []at a<;>try (cases a;done)
         rename_i S H
         obtain⟨T,U,X,J,K⟩:=ux L R G
         cases f:aN k' S with
         |none=>simp [f]at a
         | some r=>
           cases r with
           | none=>
             simp only [f]at a
             obtain⟨z,D,F⟩:=g a
             refine⟨_,?_,F⟩
             simp [iI ok hf,iX J,ln ok e hf K f,D]
           | some p=>
             obtain⟨u,n⟩:=p
             simp only [f]at a
             cases a
             obtain⟨j,Y,Z,V,W,_⟩:=kY ok e hf K f w
             refine⟨_,?_,o W true⟩
             simp [iI ok hf,iX J,V]

omit ok in
theorem rl{mu:Mu}{h:Hp}{w:World}(l:aJ mu h w){t:TypeId}{m i k k':Value}{r a:Nat}{g:List (Value×Value×Nat)}{el:TypeId}(e:iv E h t m k=some (r,g,a,el))
 (n:ao mu m i) (o:ao mu k k'): ∃kt kd c top es',E.und t=some (.map kt el)/\E.und kt=some kd/\aP E kt k=true/\k'=k/\rY k=true/\i=.map (some c)/\h.get r=some (.map g a)/\
  mu r=.blk c 0 top/\w.heap[c]? =some (.map es' a)/\kJ mu g es'.toList:=by
 unfold iv at e
 cases j:E.und t with
 |none=>simp [j]at e
 | some d=>
   simp only [j]at e
   cases d<;>simp only []at e<;>try (cases e;done)
   rename_i kt p
   cases hf:aP E kt k with
   |false=>simp [hf]at e
   | true=>
     simp only [hf,cond_true]at e
     obtain⟨q,s,kd,u⟩:=qQ (E:=E) hf o
     cases n<;>(try simp only []at e)<;>try (cases e;done)
     rename_i b c v
     cases f:h.get b with
     |none=>simp [f]at e
     | some x=>
       simp only [f]at e
       cases x<;>simp only []at e<;>try (cases e;done)
       cases e
       obtain⟨top,es',y,z,A⟩:=ux l v f
       exact⟨kt,kd,c,top,es',rfl,u,hf,q,s,rfl,f,y,z,A⟩

theorem ug {mu:Mu} {h h':Hp} {w:World} (i:aJ mu h w) {t:TypeId} {m C k k' v v':Value} (f:dH E h t m k v=some h') (I:ao mu m C) (J:ao mu k k') (D:ao mu v v'):
 ∃w',(Instr.mapUpdate t C k' v').run P w=.ok () w'/\aJ mu h' w'/\Ext mu h w mu h' w':=by
 unfold dH at f
 cases l:iv E h t m k with
 |none=>simp [l]at f
 | some q=>
   obtain⟨r,o,a,el⟩:=q
   simp only [l]at f
   obtain⟨R,S,c,K,b,L,F,s,rfl,e5,rfl,G,e8,e9,e10⟩:=rl i l I J
   unfold Instr.mapUpdate
   simp only [Sem.run_bind,aR ok L,Result.andThen_ok,iX e9,iI ok s]
   cases d:aN k' o with
   |none=>simp [d]at f
   | some p=>
     cases p with
     | none=>
       simp only [d]at f
       cases f
       have x:=ln ok F s e10 d w
       obtain⟨y,z,A⟩:=lS (P:=P) i G e8 e9 (es2:=o++[(k',v,a)]) (es2':=b.push {key:=k',val:=v',born:=a}) (clock2:=a+1) (by
        simp only [Array.toList_push]
        exact LR.append e10 (LR.cons ⟨rfl,e5,D,rfl⟩ LR.nil))
       exact⟨_,by simp [x,y],z,A⟩
     | some u=>
       obtain⟨u,n⟩:=u
       simp only [d]at f
       cases f
       obtain⟨j,g,H,M,T,U,N,O,V⟩:=kY ok F s e10 d w
       have Q:b[j]? =some g:=by rw [<-zM];exact H
       have B:(Instr.keyThatStays g.key k').run P w=.ok k' w:=by
        simp [Instr.keyThatStays,(show Instr.sameBits 10000 g.key k'=true from po (tT true N) 9999)]
       obtain⟨y,z,A⟩:=lS (P:=P) i G e8 e9 (es2:=iE k' v o) (es2':=b.modify j fun e=>{e with key:=k',val:=v'}) (clock2:=a) (by
        have:(b.modify j fun e=>{e with key:=k',val:=v'}).toList=b.toList.set j {g with key:=k',val:=v'}:=by
         rw [Xn]
         exact qd H _
        rw [this];exact O v v' D)
       refine⟨_,?_,z,A⟩
       simp [M,Q,B,y]
end
end Go.Ab

namespace Go.Ab
section
variable{E:Env}{P:Program}(ok:EOk E P)
include ok

theorem Bg {mu:Mu} {h h':Hp} {w:World} (v:aJ mu h w) {t ty:TypeId} {ts:Array TypeId} {xs:Array Value} {m I k k':Value} (L:ts[0]? =some t) (y:xs[0]? =some I) (z:xs[1]? =some k')
 (g:lq E h t m k=some h') (M:ao mu m I) (N:ao mu k k'):
 ∃w',(Builtin.delete_ ts ty xs).run P w=.ok (.tuple #[]) w'/\aJ mu h' w'/\Ext mu h w mu h' w':=by
 unfold lq at g
 cases A:iv E h t m k with
 |none=>simp [A]at g
 | some q=>
   obtain⟨r,i,d,el⟩:=q
   simp only [A]at g
   obtain⟨W,X,c,O,e,Q,J,B,rfl,e5,rfl,K,e8,e9,e10⟩:=rl v A M N
   unfold Builtin.delete_
   simp only [L,y,z,Sem.run_bind,aR ok Q,Result.andThen_ok,iX e9,iI ok B]
   cases f:aN k' i with
   |none=>simp [f]at g
   | some p=>
     simp only [f]at g
     cases g
     cases p with
     | none=>
       have C:=ln ok J B e10 f w
       have o:jE k' i=i:=by
        have : ∀l:List (Value×Value×Nat),aN k' l=some none->jE k' l=l:=by
         intro l
         induction l with
         |nil=>intro _;rfl
         | cons x l R=>
           obtain⟨a,b,n⟩:=x
           intro s
           simp only [aN]at s
           simp only [jE]
           cases D:bH k' a with
           |none=>simp [D]at s
           | some b=>cases b with
             |true=>simp [D]at s
             |false=>simp only [D]at s⊢;rw [R s]
        exact this i f
       obtain⟨F,G,H⟩:=lS (P:=P) v K e8 e9 (es2:=jE k' i) (es2':=e) (clock2:=d) (by rw [o];exact e10)
       exact⟨_,by simp [C,F],G,H⟩
     | some u=>
       obtain⟨u,n⟩:=u
       obtain⟨j,Y,S,T,Z,f4,f5,f6,U⟩:=kY ok J B e10 f w
       obtain⟨F,G,H⟩:=lS (P:=P) v K e8 e9 (es2:=jE k' i) (es2':=e.eraseIdxIfInBounds j) (clock2:=d) (by
        have:(e.eraseIdxIfInBounds j).toList=e.toList.eraseIdx j:=by
         unfold Array.eraseIdxIfInBounds
         have V:j<e.size:=by have:=(List.getElem?_eq_some_iff.1 S).1;simpa using this
         rw [dif_pos V];simp
        rw [this];exact U)
       exact⟨_,by simp [T,F],G,H⟩

theorem AU {mu:Mu} {h h':Hp} {w:World} (o:aJ mu h w) {t:TypeId} {m H k k' v:Value} (f:ic E h t m k=some (h',v)) (N:ao mu m H) (O:ao mu k k'):
 ∃v' w',(Instr.mapEntry t H k').run P w=.ok v' w'/\aJ mu h' w'/\Ext mu h w mu h' w'/\ao mu v v':=by
 have g: ∀{z y:Value},ao mu z y-> ∀n:Nat,ao mu (.tuple #[z,.int .i64 (.ofNat n)]) (.tuple #[y,goInt (n:Int)]):=by
  intro z y i n
  have:VL mu [z,.int .i64 (.ofNat n)] [y,goInt (n:Int)]:=LR.cons i (LR.cons (.int _ _) LR.nil)
  exact .tuple this.1 this.2
 unfold ic at f
 cases s:iv E h t m k with
 |none=>simp [s]at f
 | some q =>
   obtain⟨r,x,a,el⟩:=q
   simp only [s]at f
   obtain⟨Y,Z,c,Q,b,R,I,A,rfl,e5,rfl,J,e8,e9,e10⟩:=rl o s N O
   unfold Instr.mapEntry
   simp only [Sem.run_bind,aR ok R,Result.andThen_ok,iX e9,iI ok A]
   cases d:aN k' x with
   |none=>simp [d]at f
   | some p=>
     cases p with
     | none=>
       simp only [d]at f
       cases i:E.zeroV el with
       |none=>simp [i]at f
       | some z=>
         simp only [i]at f
         cases f
         obtain⟨S,K⟩:=oQ ok i w mu
         have B:=ln ok I A e10 d w
         obtain⟨C,D,F⟩:=lS (P:=P) o J e8 e9 (es2:=x++[(k',z,a)]) (es2':=b.push {key:=k',val:=z,born:=a}) (clock2:=a+1) (by
          simp only [Array.toList_push]
          exact LR.append e10 (LR.cons ⟨rfl,e5,K,rfl⟩ LR.nil))
         exact⟨_,_,by simp [B,S,C],D,F,g K a⟩
     | some u=>
       obtain⟨u,n⟩:=u
       simp only [d]at f
       cases f
       obtain⟨j,l,L,T,M,U,V,W,f7⟩:=kY ok I A e10 d w
       have X:b[j]? =some l:=by rw [<-zM];exact L
       have G:(Instr.keyThatStays l.key k').run P w=.ok k' w:=by
        simp [Instr.keyThatStays,(show Instr.sameBits 10000 l.key k'=true from po (tT true V) 9999)]
       obtain⟨C,D,F⟩:=lS (P:=P) o J e8 e9 (es2:=iE k' u x) (es2':=b.modify j fun e=>{e with key:=k'}) (clock2:=a) (by
        have:(b.modify j fun e=>{e with key:=k'}).toList=b.toList.set j {l with key:=k'}:=by
         rw [Xn];exact qd L _
        rw [this];exact W u l.val M)
       refine⟨_,_,by simp [T,X,G,C];rfl,D,F,?_⟩
       rw [U];exact g M n

omit ok in
theorem yk {mu:Mu} {h h':Hp} {w:World} (r:aJ mu h w) {t:TypeId} {m u s s' v v':Value} (a:ku h m s v=some h') (y:ao mu m u) (z:ao mu s s') (A:ao mu v v'):
 ∃w',(Instr.entryStore t u s' v').run P w=.ok () w'/\aJ mu h' w'/\Ext mu h w mu h' w':=by
 unfold ku at a
 cases y<;>(try simp only []at a)<;>try (cases a;done)
 rename_i b c B
 cases o:h.get b with
 |none=>simp [o]at a
 | some x=>
   simp only [o]at a
   cases x<;>(try simp only []at a)<;>try (cases a;done)
   rename_i C f
   obtain⟨D,d,e8,e9,e10⟩:=ux r B o
   cases z<;>(try simp only []at a)<;>try (cases a;done)
   rename_i k i
   cases p:gf i with
   |none=>simp [p]at a
   | some n=>
     have:=oI p
     subst this
     simp only [p]at a
     cases g:fK n v C with
     |none=>simp [g]at a
     | some es2=>
       simp only [g]at a
       cases a
       obtain⟨j,F,G,H,I⟩:=AN A e10 g
       obtain⟨J,K,L⟩:=lS (P:=P) r o e8 e9 (es2:=es2) (es2':=d.modify j fun e=>{e with val:=v'}) (clock2:=f) (by
        have:(d.modify j fun e=>{e with val:=v'}).toList=d.toList.set j {F with val:=v'}:=by
         rw [Xn];exact qd H _
        rw [this];exact I)
       have q:d.findIdx? (fun e=>(e.born:Int)==(n:Int))=some j:=by obtain⟨l⟩:=d;simpa using G
       exact⟨_,by simp [Instr.entryStore,iX e9,asInt,asIntOf,q,J],K,L⟩

omit ok in
theorem j7(a:List Value)(n:Nat):(bA a n).length=n*a.length:=by
 induction n with
 |zero=>simp [bA]
 |succ n b=>simp [bA,b,Nat.succ_mul];omega
omit ok in
theorem zp(b:List Value)(n i:Nat)(h:i<n*b.length):(bA b n)[i]? =b[i%b.length]? :=by
 induction n generalizing i with
 |zero=>simp at h
 | succ n d=>
   simp only [bA]
   by_cases c:i<b.length
   . rw [zN c,Nat.mod_eq_of_lt c]
   . rw [Xg (by omega),d _ (by rw [Xp,Nat.one_mul]at h;omega)]
     rw [Nat.mod_eq_sub_mod (a:=i) (by omega)]
omit ok in
theorem wR{mu:Mu}{z:Value}{a:List Value}(k:z.cells.toList=a)(l:a.all cJ=true)(c:Nat):
 VL mu (bA a c) ((Xq (c*a.length)).map (z.cells[· %z.cells.size]!)).toList:=by
 have h:z.cells.size=a.length:=by rw [<-k];rfl
 refine⟨by simp [j7],fun i v m f b=>?_⟩
 have g:i<c*a.length:=by
  have:=(List.getElem?_eq_some_iff.1 f).1
  rwa [j7]at this
 rw [zp _ _ _ g]at f
 have d:0<a.length:=by
  rcases Nat.eq_zero_or_pos a.length with j|j
  . rw [j]at g;simp at g
  . exact j
 have o:i%a.length<a.length:=Nat.mod_lt _ d
 have e:m=z.cells[i%a.length]! :=by
  simp only [Xd,List.getElem?_map,Array.toList_range]at b
  rw [List.getElem?_range g]at b
  simp at b
  rw [<-b,h]
 have n:z.cells[i%a.length]! =v:=by
  rw [getElem!_pos z.cells _ (by omega)]
  have:z.cells.toList[i%a.length]? =some v:=by rw [k];exact f
  rw [List.getElem?_eq_some_iff]at this
  obtain⟨_,q⟩:=this
  rw [<-q];simp
 rw [e,n]
 simp only [Xb]at l
 exact ao.const mu (l v (Xu f))

omit ok in
theorem yJ{mu:Mu}{v v':Value}{n:Nat}(h:natV v=some n)(a:ao mu v v'): ∃k,v'=.int k (n:Int):=by
 unfold natV at h
 cases a<;>(try simp only []at h)<;>try (cases h;done)
 rename_i k i
 exact⟨k,by rw [oI h]⟩
omit ok in
theorem wrap_small{n:Nat}(h:n<=70368744177664):IntKind.i64.wrap (n:Int)=n:=by
 rw [<-hZ]
 show(bif Nat.blt n 9223372036854775808 then _ else _)=_
 rw [gY]
 have:n<9223372036854775808:=by omega
 simp [this]
omit ok in
theorem gy(w:World)(o:Obj):WNew w {w with heap:=w.heap.push o} o:=⟨rfl,rfl,rfl,rfl⟩
omit ok in
theorem wI(mu:Mu)(b c top n cap cap' k:Nat)(h:n<=cap)(a:cap<=cap')(d:cap'*k<=top):ao (upd mu b (.blk c 0 top)) (.slice (some ⟨b,0,some k⟩) n cap) (.slice (some ⟨c,0,none⟩) n cap'):=by
 refine .slice h ?_
 unfold dE
 simp only [upd_same]
 exact⟨a,trivial,trivial,by simpa using d,by simp⟩
omit ok in
theorem nX(mu:Mu)(b c top n cap:Nat)(h:n<=cap):ao (upd mu b (.blk c 0 top)) (.slice (some ⟨b,0,none⟩) n cap) (.slice (some ⟨c,0,none⟩) n cap):=by
 refine .slice h ?_
 unfold dE
 simp only [upd_same]
 simp

theorem uR {mu : Mu} {h h':Hp} {w:World} (G:aJ mu h w) {t:TypeId} {l l' c c' v:Value} (b:iZ E h t l c=some (h',v)) (S:ao mu l l') (T:ao mu c c'):
 ∃v' x w',(Instr.makeSlice t l' c').run P w=.ok v' w'/\aJ x h' w'/\Ext mu h w x h' w'/\ao x v v':=by
 unfold iZ at b
 cases H:E.und t with
 |none=>simp [H]at b
 | some d=>
   simp only [H]at b
   cases d<;>(try simp only []at b)<;>try (cases b;done)
   rename_i e
   cases C:natV l with
   |none=>simp [C]at b
   | some n =>
     cases I:natV c with
     |none=>simp [C,I]at b
     | some m=>
       obtain⟨U,rfl⟩:=yJ C S
       obtain⟨V,rfl⟩:=yJ I T
       simp only [C,I]at b
       cases D:E.ty e with
       |none=>simp [D]at b
       | some i =>
         simp only [D,dK]at b
         by_cases o:n<=m/\m*(i.bytes+1)<=70368744177664
         . obtain ⟨F,W⟩:=o
           simp only [F,W,decide_true,Xi,cond_true]at b
           cases J:E.zero e with
           |none=>simp [J]at b
           | some K=>
             simp only [J,bN]at b
             by_cases f:K.length=i.size
             . simp only [f,decide_true,cond_true]at b
               obtain⟨z,A,X,z3,Y⟩:=l8 ok J w
               have L:m<=70368744177664:=by
                have:m*1<=m*(i.bytes+1):=Nat.mul_le_mul_left m (by omega)
                omega
               have M:n<=70368744177664:=by omega
               have N: ¬((i.bytes:Int)*(m:Int)>2 ^48):=by
                have:i.bytes*m<=m*(i.bytes+1):=by rw [Nat.mul_comm,Nat.mul_add];omega
                have:((i.bytes*m:Nat):Int)<=70368744177664:=by omega
                rw [Int.natCast_mul]at this
                rw [show(2:Int) ^48=281474976710656 from rfl];omega
               have y:E.sz e=some i.size:=by unfold Env.sz;rw [D]
               have a:=wR (mu:=mu) X Y m
               obtain⟨k,p⟩: ∃k,k=(Xq (m*K.length)).map (z.cells[· %z.cells.size]!):=⟨_,rfl⟩
               rw [<-p]at a
               have B:(Instr.makeSlice t (.int U n) (.int V m)).run P w=.ok (.slice (some ⟨w.heap.size,0,none⟩) n m) {w with heap:=w.heap.push (.cells k e)}:=by
                unfold Instr.makeSlice
                simp only [Sem.run_bind,aR ok H,Result.andThen_ok,asInt,asIntOf,Sem.run_pure,lJ ok D,wrap_small L,wrap_small M]
                have Z:(decide ((m:Int)<0)||decide ((i.bytes:Int)*(m:Int)>2 ^48))=false:=by
                 rw [decide_eq_false N,decide_eq_false (show¬((m:Int)<0) by omega)];rfl
                have c2:((decide ((m:Int)<0)||decide ((i.bytes:Int)*(m:Int)>2 ^48))||decide ((n:Int)<0)||decide ((n:Int)>(m:Int)))=false:=by
                 rw [Z];simp;omega
                rw [if_neg (by rw [c2];simp)]
                simp only [Sem.run_bind,run_askRoom,Result.andThen_ok,dV ok y,Int.toNat_natCast]
                by_cases q:m*i.size=0
                . have:k=#[]:=by rw [p,f,q];simp
                  rw [if_pos q]
                  simp [newRow,q,this]
                  rw [show Array.map (fun _=>(default:Value)) (Xq 0)=#[] by simp]
                . rw [if_neg q]
                  simp [A,newRow,p,f]
               rw [B]
               have R:k.size=m*i.size:=by rw [p];simp [f]
               match K,b,a,f with
               | [],b,a,f=>
                 cases b
                 have g:(bA [] m).length=m*i.size:=by rw [j7,<-f]
                 obtain⟨s,u⟩:=oh (w':={w with heap:=w.heap.push (.cells k e)}) G (l:=bA [] m) (l':=k) (el:=e) a (gy w _) (t:=Tr.ofList (bA [] m)) (Tr.sized_ofList _) (Tr.get_ofList _)
                 rw [g]at s u
                 exact⟨_,_,_,rfl,s,u,nX mu h.n w.heap.size k.size n m F⟩
               | [r],b,a,f=>
                 cases b
                 have g:(bA [r] m).length=m:=by rw [j7];simp
                 obtain⟨s,u⟩:=oh (w':={w with heap:=w.heap.push (.cells k e)}) G (l:=bA [r] m) (l':=k) (el:=e) a (gy w _) (t:=Tr.blank r m m) (by rw [g];exact Tr.sized_blank r m m (Xc _)) (by
                  intro j
                  rw [Tr.get_blank r m m (Xc _)]
                  by_cases O:j<m
                  . rw [if_pos O,zp _ _ _ (by simpa using O)];simp [Nat.mod_one]
                  . rw [if_neg O,List.getElem?_eq_none (by omega)])
                 rw [g]at s u
                 exact⟨_,_,_,rfl,s,u,nX mu h.n w.heap.size k.size n m F⟩
               | r::A::Q,b,a,f=>
                 cases b
                 have g:(bA (r::A::Q) m).length=m*i.size:=by rw [j7,<-f]
                 obtain⟨s,u⟩:=oh (w':={w with heap:=w.heap.push (.cells k e)}) G (l:=bA (r::A::Q) m) (l':=k) (el:=e) a (gy w _) (t:=Tr.ofList (bA (r::A::Q) m)) (Tr.sized_ofList _) (Tr.get_ofList _)
                 rw [g]at s u
                 exact⟨_,_,_,rfl,s,u,nX mu h.n w.heap.size k.size n m F⟩
             . simp [f]at b
         . have:(decide (n<=m)&&decide (m*(i.bytes+1)<=70368744177664))=false:=by
            rw [<-Xf];simpa using o
           rw [this]at b;simp at b

theorem uk {mu : Mu} {h h':Hp} {w:World} (D:aJ mu h w) {t:TypeId} {n:Nat} {c a:List (Nat×Value)} {v:Value} (b:je E h t n c=some (h',v)) (hq:PL mu c a):
 ∃v' g w',(Instr.buildSlice t n a.toArray).run P w=.ok v' w'/\aJ g h' w'/\Ext mu h w g h' w'/\ao g v v':=by
 unfold je at b
 cases u:E.und t with
 |none=>simp [u]at b
 | some d=>
   simp only [u]at b
   cases d<;>(try simp only []at b)<;>try (cases b;done)
   rename_i e
   cases x:E.sz e with
   |none=>simp [x]at b
   | some k=>
     simp only [x,dK]at b
     by_cases A:n*k<=16777216
     . simp only [A,decide_true,cond_true]at b
       cases y:E.zero e with
       |none=>simp [y]at b
       | some p =>
         simp only [y,bN]at b
         by_cases f:p.length=k
         . simp only [f,decide_true,cond_true]at b
           cases hf:iz (fun i=>some (i*k,k)) (bA p n) c with
           |none=>simp [hf]at b
           | some B=>
             simp only [hf]at b
             cases b
             obtain⟨z,F,G,N,H⟩:=l8 ok y w
             have m:=wR (mu:=mu) G H n
             obtain⟨s,C,I⟩:=rE (place':=fun i=>some (i*k,k)) (fun i r J=>J) hf m hq
             have o:(Instr.buildSlice t n a.toArray).run P w=.ok (.slice (some ⟨w.heap.size,0,none⟩) n n) {w with heap:=w.heap.push (.cells s e)}:=by
              unfold Instr.buildSlice
              simp only [Sem.run_bind,aR ok u,Result.andThen_ok,dV ok x]
              rw [if_neg (by omega)]
              by_cases j:n*k=0
              . have K: ∀q:Array Value,(Xq (n*k)).map (q[· %q.size]!)=(Xq (n*p.length)).map (z.cells[· %z.cells.size]!):=by
                 intro q;rw [f,j];simp
                rw [if_pos j]
                simp only [Sem.run_bind,Sem.run_pure,Result.andThen_ok]
                rw [K,C]
                simp [newRow]
              . rw [if_neg j]
                simp only [Sem.run_bind,F,Result.andThen_ok,Sem.run_pure]
                rw [show n*k=n*p.length by rw [f],C]
                simp [newRow]
             rw [o]
             obtain⟨L,M⟩:=oh (w':={w with heap:=w.heap.push (.cells s e)}) D (l:=B) (l':=s) (el:=e) I (gy w _) (t:=Tr.ofList B) (Tr.sized_ofList _) (Tr.get_ofList _)
             exact⟨_,_,_,rfl,L,M,nX mu h.n w.heap.size s.size n n (Xc _)⟩
         . simp [f]at b
     . simp [A]at b
end
end Go.Ab

namespace Go.Ab
section
variable{E:Env}{P:Program}(ok:EOk E P)

theorem zO{d:Tr Value}{b off m:Nat}{new:List Value}{t2:Tr Value}{s2:Nat}(e:d.Sized b)(h:i6 d b off m new=some (t2,s2)):
 off+m<=b/\s2=m+new.length/\t2.Sized s2/\(∀i,i<m->t2.get i=d.get (off+i))/\ ∀i,m<=i->t2.get i=new[i-m]? :=by
 unfold i6 at h
 rw [bN,bN]at h
 by_cases f:off=0/\m=b
 . obtain⟨rfl,rfl⟩:=f
   simp only [decide_true,Xi,cond_true]at h
   cases h
   refine⟨by omega,rfl,Tr.sized_pushAll _ e,fun i c=>?_,fun i c=>?_⟩
   . rw [Tr.get_pushAll _ _ _ e,if_pos c,Xl]
   . rw [Tr.get_pushAll _ _ _ e,if_neg (by omega)]
 . have:(decide (off=0)&&decide (m=b))=false:=by
    rw [<-Xf];simpa using f
   rw [this,dK]at h
   simp only [cond_false]at h
   by_cases hle:off+m<=b
   . simp only [hle,decide_true,cond_true]at h
     cases a:d.slice off m with
     |none=>simp [a]at h
     | some j=>
       simp only [a]at h
       cases h
       obtain⟨g,k⟩:=Tr.slice_spec a
       refine⟨hle,by rw [List.length_append,g],Tr.sized_ofList _,fun i c=>?_,fun i c=>?_⟩
       . rw [Tr.get_ofList,zN (by omega),k i c]
       . rw [Tr.get_ofList,Xg (by omega),g]
   . simp [hle]at h

theorem qJ{mu:Mu}{a g:Addr}{cap cap':Nat}(b:dE mu a cap g cap')(l:cap≠0):eg mu a g:=by
 unfold dE at b
 unfold eg
 cases d:mu a.block with
 |none=>rw [d]at b;exact b.elim
 |dead=>trivial
 | blk c e k=>
   rw [d]at b
   cases f:a.spot with
   |none=>rw [f]at b;exact b.2
   | some q=>
     rw [f]at b
     simp only []at b⊢
     obtain⟨_,i,j,_,h⟩:=b
     have:g.off=e+a.off:=by rcases h with h|h<;>omega
     cases g;simp at i j this;simp [i,j,this]

theorem jN {mu:Mu} {h:Hp} {w:World} (p:aJ mu h w) {a f:Addr} {len cap cap' k:Nat} (q:len<=cap) (r:dE mu a cap f cap') {l:List Value} (b:h.load a.block a.off (len*k)=some l):
 l.length=len*k/\ ∃l',VL mu l l'/\ ∀c:World,c.heap=w.heap->(Builtin.firstCells k len (.slice (some f) len cap')).run P c=.ok l'.toArray c:=by
 by_cases s:cap=0
 . have :len=0:=by omega
   subst this
   have u:l.length=0:=by
    unfold Hp.load at b
    cases m:h.get a.block with
    |none=>simp [m]at b
    | some x=>
      simp only [m]at b
      cases x<;>(try simp only []at b)<;>try (cases b;done)
      rename_i t v el B
      rw [dK]at b
      by_cases e:a.off+0*k<=v
      . simp only [e,decide_true,cond_true]at b
        have:=(Tr.slice_spec b).1;simpa using this
      . rw [decide_eq_false e]at b;cases b
   have:l=[]:=by cases l<;>simp_all
   subst this
   exact⟨by simp,[],LR.nil,fun c _=>by simp [Builtin.firstCells,loadCells,loadCellsFrom]⟩
 . have i:=qJ r s
   obtain⟨n,l',o,y⟩:=te p i b
   refine⟨n,l',o,fun c z=>?_⟩
   have d: ∀(j:Nat) g,l'[j]? =some g->c.cell? (f.add j)=some g:=by
    intro j g A;rw [<-y j g A];simp only [World.cell?,z]
   have:=run_loadCells_list (P:=P) c f l' d
   rw [show l'.length=len*k by rw [<-o.1];exact n]at this
   simp [Builtin.firstCells,this]

theorem xm{mu:Mu}{h:Hp}{w:World}(o:aJ mu h w){k n:Nat}{x x':Value}{new:List Value}(c:aM h k x=some (n,new))(p:ao mu x x'):
 new.length=n*k/\(∀d:World,(Builtin.lenOf x').run P d=.ok n d)/\ ∃new',VL mu new new'/\ ∀d:World,d.heap=w.heap->(Builtin.firstCells k n x').run P d=.ok new'.toArray d:=by
 unfold aM at c
 cases p<;>(try simp only []at c)<;>try (cases c;done)
 . rename_i s
   rw [bN]at c
   by_cases j:k=1
   . subst j
     simp only [decide_true,cond_true]at c
     cases c
     refine⟨by simp [aF],fun d=>rfl,(aF s).map fun b=>.int .u8 (.ofNat b.toNat),LR.mapSame _ fun b=>.int _ _,fun d _=>?_⟩
     simp only [Builtin.firstCells,Sem.run_pure]
     congr 1
     apply Xy
     simp [aF]
   . simp [j]at c
 . cases c
   exact⟨by simp,fun d=>rfl,[],LR.nil,fun d _=>rfl⟩
 . rename_i a y f q m g i
   cases e:h.load a.block a.off (f*k)with
   |none=>simp [e]at c
   | some l=>
     simp only [e]at c
     cases c
     obtain⟨r,t,u,v⟩:=jN (P:=P) o g i e
     exact⟨r,fun d=>rfl,t,u,v⟩

theorem hrel_move{mu:Mu}{h:Hp}{w w':World}(z:aJ mu h w){b c base top base2:Nat}{o:Obj}{x:Blk}(A:mu b=.blk c base top)
 (C: ∀t D el,h.get b≠some (.cells t D el 0)) (L:WSet w w' c o) (R:kp (upd mu b .dead) x base2 top o):
 aJ (upd (upd mu b .dead) h.n (.blk c base2 top)) ((h.put b .dead).new x) w'/\Ext mu h w (upd (upd mu b .dead) h.n (.blk c base2 top)) ((h.put b .dead).new x) w':=by
 obtain⟨p,n⟩:=ng z A C L
 have F:=z.lt b (by rw [A];simp)
 have q:(h.put b .dead).n=h.n:=rfl
 have hle:Le (upd mu b .dead) (upd (upd mu b .dead) h.n (.blk c base2 top)):=by
  intro f j;left;exact aI _ _ (by have:=p.lt f j;rw [q]at this;omega)
 have k:=(h.put b .dead).get_new x p.sized
 have l: ∀f d i,upd mu b .dead f≠ .blk c d i:=by
  intro f d i a
  have u:f≠b:=by intro e;subst e;rw [upd_same]at a;cases a
  rw [aI _ _ u]at a
  exact u (z.inj f b c _ _ _ _ a A)
 refine⟨⟨Tr.sized_push x p.sized,?_,?_,?_,?_⟩,?_⟩
 . intro f s d i a
   by_cases g:f=h.n
   . subst g
     rw [upd_same]at a
     cases a
     exact⟨x,o,by rw [k,q];simp,L.at_,R.mono hle⟩
   . rw [aI _ _ g]at a
     obtain⟨y,S,r,m,T⟩:=p.blk f s d i a
     exact⟨y,S,by rw [k,q,if_neg g];exact r,m,T.mono hle⟩
 . intro f a
   by_cases g:f=h.n
   . subst g;rw [upd_same]at a;cases a
   . rw [aI _ _ g]at a;rw [k,q,if_neg g];exact p.dead f a
 . intro M G s H N B O r m
   by_cases I:M=h.n
   . by_cases v:G=h.n
     . rw [I,v]
     . subst I;rw [upd_same]at r;rw [aI _ _ v]at m;cases r;exact absurd m (l _ _ _)
   . rw [aI _ _ I]at r
     by_cases v:G=h.n
     . subst v;rw [upd_same]at m;cases m;exact absurd r (l _ _ _)
     . rw [aI _ _ v]at m;exact p.inj M G s _ _ _ _ r m
 . intro f a
   show f<h.n+1
   by_cases g:f=h.n
   . omega
   . rw [aI _ _ g]at a;have:=p.lt f a;rw [q]at this;omega
 . refine⟨by show h.n<=h.n+1;omega,?_,?_,n.lo,?_,n.frame,?_,n.wsize,n.os,n.tape,n.output,fun f r m=>by
    have U:f<h.n+1:=m
    have:f=h.n:=by omega
    subst this;rw [upd_same];simp⟩
   . intro f j
     rw [aI _ _ (by omega)];exact n.old f j
   . intro f s d i j a
     by_cases g:f=h.n
     . subst g;rw [upd_same]at a;cases a
       exact .inr ⟨b,base,top,F,A,by rw [aI _ _ (by omega)];exact upd_same _ _ _⟩
     . rw [aI _ _ g]at a
       exact absurd (p.lt f (by rw [a];simp)) (by rw [q];omega)
   . intro f j J
     rw [k,q,if_neg (by omega)];exact n.same f j J
   . intro f s d i t D el a K
     obtain⟨V,W,X⟩:=n.ro f s d i t D el a K
     have Q:=z.lt f (by rw [a];simp)
     exact⟨V,by rw [k,q,if_neg (by omega)];exact W,by rw [aI _ _ (by omega)];exact X⟩

theorem Aw {n c:Nat} (h:c<n):Builtin.nextslicecap n c<=3*n:=by
 unfold Builtin.nextslicecap
 split
 . omega
 . split
   . omega
   . rename_i e f
     have a: ∀(r c:Nat),c<=n+(n+768)/4->Builtin.growBy n r c<=n+(n+768)/4:=by
      intro r
      induction r with
      |zero=>intro c b;exact b
      | succ r d=>
        intro c b
        simp only [Builtin.growBy]
        split
        . exact b
        . exact d _ (by omega)
     have:=a 4 c (by omega)
     omega
end
end Go.Ab

namespace Go.Ab
theorem wX{w:World}{c:Nat}{cs:Array Value}{el:TypeId}{b:Nat×Nat}(o:Nat)(vs:List Value)(h:w.heap[c]? =some (.cells cs el b)):
 ∃a,WSet w (w.setCells c o vs) c (.cells a el b)/\a.toList=bS cs.toList o vs:=setCells_at c vs o w cs el b h
section
variable{E:Env}{P:Program}(ok:EOk E P)
include ok

omit ok in
theorem vk{t:TypeId}(h:dD E t=some false): ∃d,E.und t=some d/\(match d with| .int _=>true|_=>false)=false:=by
 unfold dD at h
 cases a:E.und t with
 |none=>simp [a]at h
 | some d=>
   simp only [a]at h
   exact⟨d,rfl,by cases d<;>simp at h<;>rfl⟩

theorem s8{mu:Mu}{h:Hp}{w:World}(B:aJ mu h w){e:TypeId}{i:TypeInfo}{C:List Value}(H:E.zero e=some C)(r:C.length=i.size)
 {len n cap':Nat} {s' x':Value} {old' new':List Value} (I: ∀f:World,f.heap=w.heap->(Builtin.firstCells i.size len s').run P f=.ok old'.toArray f)
 (J: ∀f:World,f.heap=w.heap->(Builtin.firstCells i.size n x').run P f=.ok new'.toArray f) (D:old'.length=len*i.size) (F:new'.length=n*i.size)
 {t2:Tr Value} {s2:Nat} (K:t2.Sized s2) (s:s2=old'.length+new'.length) (l: ∀j v,t2.get j=some v-> ∃v',(old'++new')[j]? =some v'/\ao mu v v'):
 ∃ v' g w',((do
   let a<-choose (.appendCap (len+n) cap' e)
   askRoom (a*i.bytes)
   let t<-Builtin.firstCells i.size len s'
   let new<-Builtin.firstCells i.size n x'
   let rest:=Builtin.zeroCells (<-zeroValue e).cells (a-(len+n))
   pure (Value.slice (some (<-newRow e (t++new++rest))) (len+n) a):Sem Value)).run P w=.ok v' w'/\
   aJ g (h.new (.cells t2 s2 e 1)) w'/\Ext mu h w g (h.new (.cells t2 s2 e 1)) w'/\ao g (.slice (some ⟨h.n,0,some i.size⟩) (len+n) (len+n)) v':=by
 obtain⟨z,L,M,U,V⟩:=l8 ok H {w with drawn:=w.drawn+1}
 obtain⟨d,m⟩: ∃d,d=(Question.appendCap (len+n) cap' e).cut (w.tape w.drawn (.appendCap (len+n) cap' e)):=⟨_,rfl⟩
 have p:len+n<=d:=by rw [m];simp only [Question.cut];omega
 have u:z.cells.size=i.size:=by rw [<-r,<-M];rfl
 obtain⟨rest,b⟩: ∃rest,rest=Builtin.zeroCells z.cells (d-(len+n)):=⟨_,rfl⟩
 have y:rest.size=(d-(len+n))*i.size:=by rw [b];simp [Builtin.zeroCells,u]
 obtain⟨c,k⟩: ∃c,c=old'.toArray++new'.toArray++rest:=⟨_,rfl⟩
 have q:c.size=d*i.size:=by
  rw [k];simp only [Array.size_append,List.size_toArray,D,F,y]
  rw [<-Xp,<-Xp];congr 1;omega
 have A:s2<=c.size:=by
  rw [s,D,F,q,<-Xp];exact Xm _ p
 have N:aJ mu h {w with drawn:=w.drawn+1}:=qY B rfl
 obtain⟨O,Q⟩:=lW (x:=.cells t2 s2 e 1) (base:=0) (top:=c.size) (o:=.cells c e) N (gy {w with drawn:=w.drawn+1} (.cells c e)) ⟨c,e,(0,0),rfl,rfl,by omega,K,by
  intro j v R
  obtain⟨v',G,S⟩:=l j v R
  refine⟨v',?_,S⟩
  rw [Xl,<-zM,k]
  simp only [Xh]
  have T:j<(old'++new').length:=(List.getElem?_eq_some_iff.1 G).1
  rw [zN T];exact G,by intro _ j _ W;omega⟩
 refine⟨.slice (some ⟨w.heap.size,0,none⟩) (len+n) d,_,_,?_,O,(s7 (w':={w with drawn:=w.drawn+1}) B rfl rfl rfl rfl).trans Q,?_⟩
 . have hf:(Question.appendCap (len+n) cap' e).forced=false:=rfl
   simp only [Sem.run_bind,run_choose,hf,Xe,if_false,Result.andThen_ok,run_askRoom,I {w with drawn:=w.drawn+1} rfl,J {w with drawn:=w.drawn+1} rfl,L,<-m,<-b,newRow,run_newObj,Sem.run_pure,<-k]
 . exact wI mu h.n w.heap.size c.size (len+n) (len+n) d i.size (Xc _) p (by rw [q];exact Xc _)

theorem tP{ts:Array TypeId}{ty t k e:TypeId}{i:TypeInfo}{xs:Array Value}{x':Value}{base:Option Addr}{len cap' n:Nat}{w:World}(b:ts[0]? =some t)(c:ts[1]? =some k)(d:xs[0]? =some (.slice base len cap'))(f:xs[1]? =some x')
 (g:dD E k=some false) (l:E.und t=some (.slice e)) (m:E.ty e=some i) (o:(Builtin.lenOf x').run P w=.ok n w) (p:len+n<=cap'):
 (Builtin.append_ ts ty xs).run P w=((do
  let new<-Builtin.firstCells i.size n x'
  match base with
   |some a=>do storeCells (a.add (len*i.size)) new.toList;pure (Value.slice base (len+n) cap')
   |none=>pure (Value.slice base (len+n) cap'):Sem Value)).run P w:=by
 have h:E.sz e=some i.size:=by unfold Env.sz;rw [m]
 obtain⟨q,j,r⟩:=vk g
 unfold Builtin.append_
 simp only [b,c,d,f,Sem.run_bind,aR ok l,Result.andThen_ok,dV ok h,aR ok j,Sem.run_pure]
 cases q<;>first
  |(simp at r;done)
  | (simp only [Xe,if_false,Sem.run_bind,o,Result.andThen_ok,Xo,if_true,if_pos p]
     cases base<;>rfl)
theorem pE{ts:Array TypeId}{ty t m e:TypeId}{i:TypeInfo}{xs:Array Value}{x':Value}{base:Option Addr}{len cap' n:Nat}{w:World}(b:ts[0]? =some t)(c:ts[1]? =some m)(d:xs[0]? =some (.slice base len cap'))(f:xs[1]? =some x')
 (g:dD E m=some false) (p:E.und t=some (.slice e)) (o:E.ty e=some i) (q:(Builtin.lenOf x').run P w=.ok n w) (y:0<i.bytes) (r: ¬len+n<=cap') (s: ¬Builtin.nextslicecap (len+n) cap'*i.bytes>2 ^48):
 (Builtin.append_ ts ty xs).run P w=((do
  let a<-choose (.appendCap (len+n) cap' e)
  askRoom (a*i.bytes)
  let j<-Builtin.firstCells i.size len (.slice base len cap')
  let new<-Builtin.firstCells i.size n x'
  let rest:=Builtin.zeroCells (<-zeroValue e).cells (a-(len+n))
  pure (Value.slice (some (<-newRow e (j++new++rest))) (len+n) a):Sem Value)).run P w:=by
 have k:E.sz e=some i.size:=by unfold Env.sz;rw [o]
 obtain⟨u,l,v⟩:=vk g
 have x: ¬(((len+n:Nat):Int)>IntKind.i64.max/\(False\/i.bytes=0)):=by rintro⟨_,h|h⟩;exact h;omega
 unfold Builtin.append_
 simp only [b,c,d,f,Sem.run_bind,aR ok p,Result.andThen_ok,dV ok k,aR ok l,Sem.run_pure]
 cases u<;>first
  |(simp at v;done)
  | (simp only [Xe,if_false,Sem.run_bind,q,Result.andThen_ok,Xo,if_true,if_neg r,lJ ok o,if_neg x,if_neg s,run_choose,show(Question.appendCap (len+n) cap' e).forced=false from rfl]
     try rfl)
theorem zS {mu : Mu} {h h' : Hp} {w : World} (F:aJ mu h w) {ts:Array TypeId} {ty:TypeId} {xs:Array Value} {s s' x x' v:Value} (L:xs[0]? =some s') (M:xs[1]? =some x')
 (f:cZ E h ts.toList s x=some (h',v)) (hs:ao mu s s') (hx:ao mu x x'):
 ∃v' z w',(Builtin.append_ ts ty xs).run P w=.ok v' w'/\aJ z h' w'/\Ext mu h w z h' w'/\ao z v v':=by
 unfold cZ at f
 cases N:ts.toList with
 |nil=>simp [N]at f
 | cons t be =>
   cases be with
   |nil=>simp [N]at f
   | cons tx bl =>
     have O:ts[0]? =some t:=by rw [<-zM,N];rfl
     have Q:ts[1]? =some tx:=by rw [<-zM,N];rfl
     simp only [N]at f
     cases u:dD E tx with
     |none=>simp [u]at f
     | some b =>
       cases b with
       |true=>simp [u]at f
       | false =>
         simp only [u]at f
         unfold jg at f
         cases hu:E.und t with
         |none=>simp [hu]at f
         | some d=>
           simp only [hu]at f
           cases d<;>(try simp only []at f)<;>try (cases f;done)
           rename_i e
           cases hi:E.ty e with
           |none=>simp [hi]at f
           | some i =>
             simp only [hi]at f
             have bf: ∃a len G,s=.slice a len G:=by
              cases s<;>simp at f<;>exact⟨_,_,_,rfl⟩
             obtain⟨a,len,G,rfl⟩:=bf
             simp only []at f
             cases R:aM h i.size x with
             |none=>simp [R]at f
             | some q=>
               obtain⟨n,A⟩:=q
               simp only [R]at f
               obtain⟨l1,l2,new',H,l4⟩:=xm (P:=P) F R hx
               unfold eZ at f
               rw [dK,dK,gY]at f
               have a1: ∃m cap',s'=.slice m len cap'/\G<=cap'/\len<=G:=by
                cases hs with
                |nils=>exact⟨none,0,rfl,Xc _,Xc _⟩
                |slice h1 B=>exact⟨some _,_,rfl,B.caps,h1⟩
               obtain⟨m,cap',rfl,bm,bo⟩:=a1
               by_cases D:len+n<=G
               . simp only [D,decide_true,cond_true]at f
                 rw [tP ok O Q L M u hu hi (l2 w) (by omega)]
                 have hf:=l4 w rfl
                 cases hs with
                 | nils=>
                   simp only []at f
                   cases f
                   have a2:n=0:=by omega
                   subst a2
                   exact⟨.slice none 0 0,mu,w,by simp [hf],F,Ext.refl mu h w F,.nils⟩
                 | slice h1 B=>
                   rename_i a m
                   simp only []at f
                   simp only [Sem.run_bind,hf,Result.andThen_ok]
                   cases A with
                   | nil=>
                     simp only []at f
                     cases f
                     rw [H.nil_left]
                     exact⟨.slice (some m) (len+n) cap',mu,w,by simp [storeCells],F,Ext.refl mu h w F,.slice D B⟩
                   | cons x0 xr=>
                     simp only []at f
                     have a2:n≠0:=by intro e;subst e;simp at l1
                     cases ak:h.store a.block (a.off+len*i.size) (x0::xr)with
                     |none=>simp [ak]at f
                     | some S=>
                       simp only [ak]at f
                       cases f
                       have bh:=mL (qJ B (by omega)) (len*i.size)
                       obtain⟨w',g1,g2,g3⟩:=rB (P:=P) (a:=eH a (len*i.size)) F bh ak H
                       exact⟨.slice (some m) (len+n) cap',mu,w',by simp [g1],g2,g3,.slice D B⟩
               . simp only [D, decide_false,cond_false]at f
                 by_cases hb:(len+n)*(i.bytes+1)<=70368744177664/\0<i.bytes
                 . simp only [hb.1, hb.2,decide_true,Xi,cond_true]at f
                   cases hz:E.zero e with
                   |none=>simp [hz]at f
                   | some zs =>
                     simp only [hz,bN]at f
                     by_cases T:zs.length=i.size
                     . simp only [T, decide_true,cond_true]at f
                       have C: ∀c,c<len+n-> ¬Builtin.nextslicecap (len+n) c*i.bytes>2 ^48:=by
                        intro c hc
                        have:=Aw hc
                        have h3:Builtin.nextslicecap (len+n) c*i.bytes<=3*(len+n)*i.bytes:=Xm _ this
                        have h4:(len+n)*i.bytes<=(len+n)*(i.bytes+1):=Nat.mul_le_mul_left _ (by omega)
                        rw [Nat.mul_assoc]at h3
                        have:(2:Nat) ^48=281474976710656:=rfl
                        omega
                       unfold mD at f
                       cases hs with
                       | nils=>
                         simp only [bN,decide_true,cond_true]at f
                         cases f
                         rw [pE ok O Q L M u hu hi (l2 w) hb.2 (by omega) (C 0 (by omega))]
                         have:=s8 ok F (e:=e) (i:=i) hz T (len:=0) (n:=n) (cap':=0) (s':=.slice none 0 0) (x':=x') (old':=[]) (new':=new') (fun w2 _=>rfl) l4 (by simp) (by rw [<-H.1];exact l1) (t2:=Tr.ofList A) (s2:=A.length) (Tr.sized_ofList _) (by rw [H.1];simp) (by
                          intro j v r;rw [Tr.get_ofList]at r;exact H.get r)
                         obtain⟨v',z,w',g1,g2,g3,g4⟩:=this
                         exact⟨v',z,w',g1,g2,g3,by simpa using g4⟩
                       | slice h1 B=>
                         rename_i a m
                         simp only []at f
                         cases hg:h.get a.block with
                         |none=>simp [hg]at f
                         | some y =>
                           simp only [hg]at f
                           cases y<;>(try simp only []at f)<;>try (cases f;done)
                           rename_i tr sz el md
                           cases al:i6 tr sz a.off (len*i.size) A with
                           |none=>simp [al]at f
                           | some p =>
                             obtain⟨t2,s2⟩:=p
                             simp only [al]at f
                             have bi: ∃c g I V J fz,mu a.block=.blk c g I/\w.heap[c]? =some (.cells V J fz)/\CRel mu tr sz md g I V fz:=by
                              unfold dE at B
                              cases hm:mu a.block with
                              |none=>rw [hm]at B;exact B.elim
                              |dead=>have:=F.dead _ hm;rw [hg]at this;cases this
                              | blk c g I=>
                                obtain⟨y,o,k1,k2,k3⟩:=F.blk _ c g I hm
                                rw [hg]at k1;cases k1
                                obtain⟨V,J,fz,rfl,k4⟩:=k3
                                exact⟨c,g,I,V,J,fz,rfl,k2,k4⟩
                             obtain⟨c,g,I,V,J,fz,hm,hw,cr⟩:=bi
                             obtain⟨q1,q2,q3,q4,q5⟩:=zO cr.sized al
                             -- the a3 cells
                             obtain⟨a3,ad⟩:=Tr.slice_mk (t:=tr) (i:=a.off) (n:=len*i.size) (fun k hk=>by
                              obtain⟨v,r⟩:=Tr.get_some cr.sized (show a.off+k<sz by omega);rw [r];rfl)
                             have ax:h.load a.block a.off (len*i.size)=some a3:=by
                              unfold Hp.load;rw [hg];simp only [dK,q1,decide_true,cond_true];exact ad
                             obtain⟨o1,old',o2,o3⟩:=jN (P:=P) F h1 B ax
                             have af: ∀j v,t2.get j=some v-> ∃v',(old'++new')[j]? =some v'/\ao mu v v':=by
                              intro j v r
                              by_cases K:j<len*i.size
                              . rw [q4 j K,(Tr.slice_spec ad).2 j K]at r
                                obtain⟨v',W,X⟩:=LR.get o2 r
                                exact⟨v',by rw [zN (by rw [<-o2.1,o1];exact K)];exact W,X⟩
                              . rw [q5 j (by omega)]at r
                                obtain⟨v',W,X⟩:=LR.get H r
                                exact⟨v',by rw [Xg (by rw [<-o2.1,o1];omega),<-o2.1,o1];exact W,X⟩
                             have a4:s2=old'.length+new'.length:=by rw [<-o2.1,<-H.1,o1];exact q2
                             cases Y:a.spot with
                             | none=>
                               simp only [Y]at f
                               cases f
                               have bp:cap'=G:=by
                                unfold dE at B;rw [hm]at B;simp only [Y]at B;exact B.1
                               rw [pE ok O Q L M u hu hi (l2 w) hb.2 (by omega) (C cap' (by omega))]
                               exact s8 ok F hz T o3 l4 (by rw [<-o2.1];exact o1) (by rw [<-H.1];exact l1) q3 a4 af
                             | some k' =>
                               simp only [Y,bN]at f
                               by_cases hk:k'=i.size/\md≠0/\A.all iU=true
                               . obtain ⟨rfl,Z,ay⟩:=hk
                                 simp only [Z,ay,decide_true,decide_false,Xo,Xi,cond_true]at f
                                 cases f
                                 have a5: ∀t sz el,h.get a.block≠some (.cells t sz el 0):=by intro t br J e;rw [hg]at e;cases e;exact Z rfl
                                 by_cases l:len+n<=cap'
                                 . -- it fits all the same
                                   rw [tP ok O Q L M u hu hi (l2 w) l]
                                   simp only [Sem.run_bind,l4 w rfl,Result.andThen_ok]
                                   have S:=B
                                   unfold dE at S
                                   rw [hm]at S
                                   simp only [Y]at S
                                   obtain⟨s1,a6,s3,s4,s5⟩:=S
                                   have bs:(len+n)*i.size<=cap'*i.size:=Xm _ l
                                   have bk:len*i.size+n*i.size=(len+n)*i.size:=(Xp _ _ _).symm
                                   have bt:new'.length=n*i.size:=by rw [<-H.1];exact l1
                                   have a7:=cr.whole
                                   have ba: ∀v∈new',v.oneCell'=true:=by
                                    intro v r
                                    obtain⟨j,K⟩:=List.mem_iff_getElem?.1 r
                                    have bb:j<A.length:=by rw [H.1];exact(List.getElem?_eq_some_iff.1 K).1
                                    have:=H.2 j _ v (Xa bb) K
                                    refine this.flat ?_
                                    simp only [Xb]at ay
                                    exact ay _ (Xj bb)
                                   have ai:=run_storeCells_cells (P:=P) c (m.off+len*i.size) new' 0 w (fun j K=>by
                                    simp only [World.cell?,hw]
                                    simp
                                    omega) (fun j K=>by
                                    simp only [World.frozen?,hw]
                                    have:=cr.free Z (m.off+len*i.size+0+j) (by omega)
                                    simp only [Xs,decide_eq_false_iff_not]
                                    by_cases hx:fz.1<=m.off+len*i.size+0+j
                                    . right;exact fun hy=>this ⟨hx,hy⟩
                                    . left;exact hx) ba
                                   rw [Nat.add_zero]at ai
                                   have bc:m.add (len*i.size)=⟨c,m.off+len*i.size,none⟩:=by rw [lK _ _ s3,a6]
                                   obtain⟨aL,ws,e2⟩:=wX (m.off+len*i.size) new' hw
                                   have a0:aL.size=V.size:=by
                                    have:aL.toList.length=V.toList.length:=by rw [e2,pG]
                                    simpa using this
                                   have hle:Le mu (upd mu a.block .dead):=by
                                    intro b' _
                                    by_cases U:b'=a.block
                                    . subst U;right;exact upd_same _ _ _
                                    . left;exact aI _ _ U
                                   obtain⟨g1,g2⟩:=hrel_move F (x:=.cells t2 s2 e 1) (base2:=m.off) hm a5 ws ⟨aL,J,fz,rfl,by rw [a0];exact a7,by omega,q3,by
                                    intro j v r
                                    rw [<-zM,e2,yd _ _ _ _ (show m.off+len*i.size+new'.length<=V.toList.length by have:V.toList.length=V.size:=rfl;omega)]
                                    by_cases K:j<len*i.size
                                    . rw [if_neg (by omega)]
                                      rw [q4 j K]at r
                                      obtain⟨v',W,X⟩:=cr.get _ _ r
                                      have bd:m.off=g+a.off:=by
                                       rcases s5 with s5|s5
                                       . have:len=0:=by omega
                                         subst this;simp at K
                                       . exact s5
                                      exact⟨v',by rw [zM,bd,Nat.add_assoc];exact W,X.mono hle⟩
                                    . rw [q5 j (by omega)]at r
                                      obtain⟨v',W,X⟩:=LR.get H r
                                      have bu:j-len*i.size<new'.length:=(List.getElem?_eq_some_iff.1 W).1
                                      rw [if_pos (by omega),show m.off+j-(m.off+len*i.size)=j-len*i.size by omega]
                                      exact⟨v',W,X.mono hle⟩,fun _=>by
                                    intro j K;exact cr.free Z j (by omega)⟩
                                   refine⟨.slice (some m) (len+n) cap',_,_,?_,g1,g2,.slice (Xc _) ?_⟩
                                   . simp only [bc,ai,Result.andThen_ok,Sem.run_pure]
                                   . unfold dE;simp only [upd_same];exact⟨l,a6,s3,s4,by right;rfl⟩
                                 . rw [pE ok O Q L M u hu hi (l2 w) hb.2 l (C cap' (by omega))]
                                   have hle:Le mu (upd mu a.block .dead):=by
                                    intro b' _
                                    by_cases U:b'=a.block
                                    . subst U;right;exact upd_same _ _ _
                                    . left;exact aI _ _ U
                                   obtain⟨k1,k2⟩:=ng F hm a5 (w':=w) ⟨rfl,hw,fun _ _=>rfl,rfl,rfl,rfl⟩
                                   obtain⟨v',z,w',g1,g2,g3,g4⟩:=s8 ok k1 hz T o3 l4 (by rw [<-o2.1];exact o1) (by rw [<-H.1];exact l1) q3 a4 (fun j v r=>by
                                    obtain⟨v',W,X⟩:=af j v r;exact⟨v',W,X.mono hle⟩)
                                   exact⟨v',z,w',g1,g2,k2.trans g3,g4⟩
                               . have:(decide (k'=i.size)&& !decide (md=0)&&A.all iU)=false:=by
                                  rw [<-Xf];simpa [and_assoc]using hk
                                 rw [this]at f;simp at f
                     . simp [T]at f
                 . have:(decide ((len+n)*(i.bytes+1)<=70368744177664)&&decide (0<i.bytes))=false:=by
                    rw [<-Xf];simpa using hb
                   rw [this]at f;simp at f
end
end Go.Ab

namespace Go.Ab
section
variable{E:Env}{P:Program}(ok:EOk E P)
include ok

omit ok in
theorem pN(a b:Nat):dO a b=Xt a b:=by
 unfold dO;rw [dK]
 by_cases h:a<=b
 . simp only [h,decide_true,cond_true];exact(Nat.min_eq_left h).symm
 . simp only [h,decide_false,cond_false];exact(Nat.min_eq_right (by omega)).symm
theorem copyV_run {mu:Mu} {h h':Hp} {w:World} (p:aJ mu h w) {ts:Array TypeId} {ty:TypeId} {xs:Array Value} {s s' x x' v:Value} (A:xs[0]? =some s') (B:xs[1]? =some x')
 (c:copyV E h ts.toList s x=some (h',v)) (J:ao mu s s') (Q:ao mu x x'):
 ∃v' i w',(Builtin.copy_ ts ty xs).run P w=.ok v' w'/\aJ i h' w'/\Ext mu h w i h' w'/\ao i v v':=by
 unfold copyV at c
 cases j:ts.toList with
 |nil=>simp [j]at c
 | cons t R=>
   have C:ts[0]? =some t:=by rw [<-zM,j];rfl
   simp only [j]at c
   cases D:E.und t with
   |none=>simp [D]at c
   | some d =>
     simp only [D]at c
     cases d<;>(try simp only []at c)<;>try (cases c;done)
     rename_i e
     cases q:E.sz e with
     |none=>simp [q]at c
     | some k=>
       simp only [q]at c
       have F: ∃a len f,s=.slice a len f:=by
        cases s<;>simp at c<;>exact⟨_,_,_,rfl⟩
       obtain⟨a,len,f,rfl⟩:=F
       have r: ∃u g,s'=.slice u len g/\len<=f:=by
        cases J with
        |nils=>exact⟨none,0,rfl,Xc _⟩
        |slice G K=>exact⟨some _,_,rfl,G⟩
       obtain⟨u,g,rfl,S⟩:=r
       unfold Builtin.copy_
       simp only [C,A,B,Sem.run_bind,aR ok D,Result.andThen_ok]
       simp only []at c
       cases Q<;>(try simp only []at c)<;>try (cases c;done)
       . cases c
         refine⟨goInt 0,mu,w,?_,p,Ext.refl mu h w p,.int _ _⟩
         have:Xt 0 len=0:=Nat.zero_min len
         cases u<;>simp [Builtin.lenOf,dV ok q,Builtin.firstCells,this,storeCells]
       . rename_i b T m U H G K
         cases n:h.load b.block b.off (dO m len*k)with
         |none=>simp [n]at c
         | some l=>
           simp only [n]at c
           have I:dO m len<=U:=by rw [pN];exact Nat.le_trans (Nat.min_le_left m len) G
           obtain⟨L,M,N,V⟩:=jN (P:=P) p (len:=dO m len) I K n
           have O:(Builtin.firstCells k (Xt m len) (.slice (some T) m H)).run P w=.ok M.toArray w:=by
            rw [<-pN];exact V w rfl
           cases l with
           | nil=>
             simp only []at c
             cases c
             have:M=[]:=N.nil_left
             subst this
             refine⟨goInt (Xt m len:Nat),mu,w,?_,p,Ext.refl mu h w p,by rw [pN];exact .int _ _⟩
             cases u<;>simp [Builtin.lenOf,dV ok q,O,storeCells]
           | cons y W=>
             simp only []at c
             cases a with
             |none=>simp at c
             | some a=>
               cases J with
               | slice q1 X=>
                 rename_i u
                 simp only []at c
                 cases o:h.store a.block a.off (y::W)with
                 |none=>simp [o]at c
                 | some Y=>
                   simp only [o]at c
                   cases c
                   have z:f≠0:=by
                    intro e0
                    have:len=0:=by omega
                    subst this
                    rw [pN,show Xt m 0=0 from Nat.min_zero m]at L;simp at L
                   obtain⟨w',Z,g2,g3⟩:=rB (P:=P) p (qJ X z) o N
                   refine⟨goInt (Xt m len:Nat),mu,w',?_,g2,g3,by rw [pN];exact .int _ _⟩
                   simp [Builtin.lenOf,dV ok q,O,Z]

omit ok in
theorem zC{mu:Mu}{l l':List Value}{r:List UInt8}(h:bytesOf l=some r)(e:VL mu l l')(s:ByteArray)(w:World)(m:String):
 (forIn l' s (fun c s=>match c with| .int .u8 n=>pure (ForInStep.yield (s.push (UInt8.ofNat n.toNat)))|_=>do stuck m;pure (ForInStep.yield s)):Sem ByteArray).run P w=.ok (gG (aF s++r)) w:=by
 induction l generalizing l' r s with
 | nil=>
   rw [e.nil_left]
   simp only [bytesOf]at h
   cases h
   simp [gG,aF]
 | cons x l f=>
   obtain⟨k,q,rfl,g,i⟩:=e.cons_left
   have: ∃n:Nat,x=.int .u8 (n:Int):=by
    unfold bytesOf at h
    split at h
    . rename_i a;cases a
    . rename_i n o a;injection a with j p;exact⟨n,j⟩
    . cases h
   obtain⟨n,rfl⟩:=this
   cases g
   have b:(match bytesOf l with|none=>none|some r=>some (UInt8.ofNat n::r))=some r:=h
   cases d:bytesOf l with
   |none=>simp [d]at b
   | some t=>
     simp only [d]at b
     cases b
     simp only [List.forIn_cons,Sem.run_bind,Sem.run_pure,Result.andThen_ok,Int.toNat_natCast]
     rw [f d i]
     simp [gG,aF]

omit ok in
theorem Ar(w:World)(cs:Array Value)(e:TypeId):
 WNew w ({w with heap:=w.heap.push (.cells cs e)}.freeze {block:=w.heap.size,off:=cs.size} 1) (.cells cs e (cs.size,cs.size+1)):=by
 refine⟨?_,rfl,rfl,rfl⟩
 simp only [World.freeze,if_neg (show¬(1:Nat)=0 by omega)]
 apply Array.ext_getElem?
 intro j
 rw [Xk,Xw,Xw]
 by_cases a:w.heap.size=j
 . subst a;simp
 . rw [if_neg a,if_neg (Ne.symm a),if_neg (Ne.symm a)]

theorem convV_run {mu:Mu} {h h':Hp} {w:World} (B:aJ mu h w) {p g:TypeId} {x x' v:Value} (t:jy E h p g x=some (h',v)) (R:ao mu x x'):
 ∃v' y w',(convert p g x').run P w=.ok v' w'/\aJ y h' w'/\Ext mu h w y h' w'/\ao y v v':=by
 unfold jy at t
 cases c:cv E p g with
 |none=>simp [c]at t
 | some q =>
   obtain⟨n,e⟩:=q
   unfold cv at c
   cases C:E.und p with
   |none=>simp [C]at c
   | some d =>
     simp only [C]at c
     have z:(∀e,d≠ .slice e)->n=0-> ∃v' y w',(convert p g x').run P w=.ok v' w'/\aJ y h' w'/\Ext mu h w y h' w'/\ao y v v':=by
      intro S hn
      subst hn
      have T:cv E p g=some (0,e):=by unfold cv;simp only [C];exact c
      simp only [T]at t
      cases U:jx E g x with
      |none=>simp [U]at t
      | some u=>
        simp only [U]at t
        cases t
        obtain⟨V,W⟩:=convP_run ok C S U R w
        exact⟨_,mu,w,V,B,Ext.refl mu h w B,W⟩
     cases d<;>(try simp only []at c)<;>(try (cases c;exact z (by intro e X;cases X) rfl))
     case string=>
      cases i:E.und g with
      |none=>simp [i]at c
      | some Y=>
        simp only [i]at c
        cases Y<;>(try simp only []at c)<;>(try (cases c;exact z (by intro e X;cases X) rfl))
        rename_i L
        cases o:E.und L with
        |none=>simp [o]at c
        | some M=>
          simp only [o]at c
          have G:M=.int .u8/\n=2/\e=L:=by
           cases M<;>(try simp only []at c)<;>try (cases c;done)
           rename_i k
           cases k<;>(try simp only []at c)<;>try (cases c;done)
           cases c;exact⟨rfl,rfl,rfl⟩
          obtain⟨rfl,rfl,rfl⟩:=G
          have H:cv E p g=some (2,e):=by unfold cv;simp only [C,i,o]
          simp only [H]at t
          cases R<;>(try simp only []at t)<;>try (cases t;done)
          rename_i s
          rw [dK]at t
          by_cases N:s.size<=1099511627776
          . simp only [N,decide_true,cond_true,bytesV]at t
            cases t
            obtain⟨I,O⟩: ∃I,I=(Question.appendCap s.size 0 e).cut (w.tape w.drawn (.appendCap s.size 0 e)):=⟨_,rfl⟩
            have Z:s.size<=I:=by rw [O];simp only [Question.cut];omega
            obtain⟨A,J⟩: ∃A:Array Value,A=(s.data.map fun b=>Value.int .u8 b.toNat)++Array.replicate (I-s.size) (.int .u8 0):=⟨_,rfl⟩
            have ad:A.size=I:=by
             rw [J];simp only [Array.size_append,Array.size_map,Array.size_replicate]
             have:s.data.size=s.size:=rfl
             omega
            have S:aJ mu h {w with drawn:=w.drawn+1}:=qY B rfl
            have af:=Ar {w with drawn:=w.drawn+1} A e
            have F:(aF s).length=s.size:=rfl
            obtain⟨V,W⟩:=lW (x:=.cells (Tr.ofList ((aF s).map fun b=>.int .u8 (.ofNat b.toNat))) s.size e 1) (base:=0) (top:=A.size) S af ⟨A,e,(A.size,A.size+1),rfl,rfl,by omega,by
             have:=Tr.sized_ofList ((aF s).map fun b=>Value.int .u8 (.ofNat b.toNat));rwa [Xr,F]at this,by
             intro j v Q
             rw [Tr.get_ofList]at Q
             have hj:j<s.size:=by have:=(List.getElem?_eq_some_iff.1 Q).1;rwa [Xr,F]at this
             refine⟨v,?_,?_⟩
             . rw [Xl,<-zM,J]
               simp only [Xh,Xd]
               rw [zN (by rw [Xr];exact hj)]
               exact Q
             . simp only [List.getElem?_map,Option.map_eq_some_iff]at Q
               obtain⟨b,_,rfl⟩:=Q
               exact .int _ _,by intro _ j hj R;omega⟩
            refine⟨.slice (some ⟨w.heap.size,0,none⟩) s.size I,_,_,?_,V,(s7 (w':={w with drawn:=w.drawn+1}) B rfl rfl rfl rfl).trans W,?_⟩
            . have hf:(Question.appendCap s.size 0 e).forced=false:=rfl
              have D:World.shape? {w with drawn:=w.drawn+1,heap:=w.heap.push (.cells A e)} w.heap.size=some (e,A.size):=by
               simp [World.shape?]
              simp only [convert,Sem.run_bind,aR ok C,aR ok i,aR ok o,Result.andThen_ok,Conv.stringToBytes,run_choose,hf,Xe,if_false,<-O,newRow,run_newObj,Sem.run_pure,<-J,markStringish,run_shape,D,run_freeze]
            . exact wI mu h.n w.heap.size A.size s.size s.size I 1 (Xc _) Z (by omega)
          . simp [N]at t
     case slice L=>
      cases i:E.und g with
      |none=>simp [i]at c
      | some Y =>
        simp only [i]at c
        cases Y<;>(try simp only []at c)<;>try (cases c;done)
        cases o:E.und L with
        |none=>simp [o]at c
        | some M =>
          simp only [o]at c
          have G:M=.int .u8/\n=1/\e=L:=by
           cases M<;>(try simp only []at c)<;>try (cases c;done)
           rename_i k
           cases k<;>(try simp only []at c)<;>try (cases c;done)
           cases c;exact⟨rfl,rfl,rfl⟩
          obtain⟨rfl,rfl,rfl⟩:=G
          have H:cv E p g=some (1,e):=by unfold cv;simp only [C,i,o]
          simp only [H]at t
          cases f:strOf h x with
          |none=>simp [f]at t
          | some u=>
            simp only [f]at t
            cases t
            unfold strOf at f
            cases R<;>(try simp only []at f)<;>try (cases f;done)
            . cases f
              refine⟨.string .empty,mu,w,?_,B,Ext.refl mu h w B,.string _⟩
              simp [convert,aR ok C,aR ok i,aR ok o,Conv.bytesToString]
            . rename_i a a' len ak ai h1 h2
              cases K:h.load a.block a.off len with
              |none=>simp [K]at f
              | some l=>
                simp only [K]at f
                cases hb:bytesOf l with
                |none=>simp [hb]at f
                | some r=>
                  simp only [hb]at f
                  cases f
                  obtain⟨o1,l',o2,o3⟩:=jN (P:=P) B (len:=len) (k:=1) h1 h2 (by rw [Xx];exact K)
                  have o4:=o3 w rfl
                  simp only [Builtin.firstCells,Xx]at o4
                  have hf:=fun m=>zC (P:=P) hb o2 ByteArray.empty w m
                  refine⟨.string (gG r),mu,w,?_,B,Ext.refl mu h w B,.string _⟩
                  simp only [convert,Sem.run_bind,aR ok C,aR ok i,aR ok o,Result.andThen_ok,Conv.bytesToString,o4]
                  rw [List.forIn_toArray]
                  refine(congrArg (fun q=>Result.andThen q (fun a w'=>Sem.run P (pure (Value.string a)) w')) (hf _)).trans ?_
                  simp [aF]

omit ok in
theorem AL{mu:Mu}{f e:Value}{args:List Value}{args':Array Value}{nx:c8}{h:Hp}{w:World}(a:target f args=some nx)(hf:ao mu f e)(i:VL mu args args'.toList):
 Res P mu h w (do let d<-Deferred.ofValue e args';invoke d.target d.args) h nx:=by
 unfold target at a
 cases hf<;>(try simp only []at a)<;>try (cases a;done)
 . rename_i g x j y k l m n o
   cases a
   refine⟨rfl,j++args'++k,by simp [Deferred.ofValue,invoke],?_⟩
   simp only [Xh]
   exact LR.append (LR.append ⟨l,m⟩ i) ⟨n,o⟩
 . rename_i b c p
   simp at a
   subst a
   exact⟨rfl,c,args',by simp [Deferred.ofValue,invoke],p,i⟩

theorem aop_run {mu:Mu} {h h':Hp} {w:World} (H:aJ mu h w) {ρ D:Operand->Value} (A: ∀x,ao mu (ρ x) (D x)) {o:Oper} {nx:c8} (j:aop E ρ h o.op=some (nx,h')):
 Res P mu h w (execOp D o) h' nx:=by
 have W: ∀l:List Operand,VL mu (l.map ρ) (l.map D):=fun l=>LR.mapSame l A
 have T: ∀{v:Value},pop E ρ o.op=some v->Res P mu h w (execOp D o) h (.val v):=by
  intro v C
  obtain⟨Q,F,G⟩:=pop_run ok A C w
  exact⟨Q,mu,w,F,H,Ext.refl mu h w H,G⟩
 have wr: ∀{r:Option Value},cq h r=some (nx,h')-> ∃v,r=some v/\nx=.val v/\h'=h:=by
  intro r L
  cases r with
  |none=>cases L
  |some v=>cases L;exact⟨v,rfl,rfl,rfl⟩
 have wv: ∀{r:Option (Hp×Value)},cR r=some (nx,h')-> ∃v,r=some (h',v)/\nx=.val v:=by
  intro r L
  cases r with
  |none=>cases L
  |some q=>obtain⟨a,b⟩:=q;cases L;exact⟨b,rfl,rfl⟩
 have wu: ∀{r:Option Hp},eQ r=some (nx,h')->r=some h'/\nx=.skip:=by
  intro r L
  cases r with
  |none=>cases L
  |some q=>cases L;exact⟨rfl,rfl⟩
 obtain⟨a0,op,R,pos,al,guard⟩:=o
 simp only []at j T
 unfold execOp
 simp only []
 cases op
 case load t a=>
  obtain⟨v,C,rfl,rfl⟩:=wr j
  obtain⟨Q,F,G⟩:=vZ ok H C (A a)
  exact⟨Q,mu,w,by simp [F],H,Ext.refl mu _ w H,G⟩
 case store t a x=>
  obtain⟨C,rfl⟩:=wu j
  obtain⟨J,F,G,K⟩:=A9 ok H C (A a) (A x)
  exact⟨mu,J,by simp [F],G,K⟩
 case convert s d x=>
  obtain⟨v,C,rfl⟩:=wv j
  obtain⟨Q,M,J,F,G,K,X⟩:=convV_run ok H C (A x)
  exact⟨Q,M,J,by simp [F],G,K,X⟩
 case alloc e=>
  simp only [aop]at j
  cases hz:E.zero e with
  |none=>simp [hz]at j
  | some z=>
    simp only [hz]at j
    obtain⟨v,C,rfl⟩:=wv j
    cases C
    obtain⟨zv,z1,z2,z3,z4⟩:=l8 ok hz w
    have L:VL mu z zv.cells.toList:=by
     rw [z2];exact LR.refl fun a I=>ao.const mu (by simp only [Xb]at z4;exact z4 a I)
    obtain⟨F,G⟩:=oh H (el:=e) L (gy w (.cells zv.cells e)) (Tr.sized_ofList z) (Tr.get_ofList z)
    exact⟨.pointer (some ⟨w.heap.size,0,none⟩),_,_,by simp [Instr.alloc,z1,newVar,newRow],F,G,.ptr (uV mu h.n w.heap.size 0 _)⟩
 case box e x=>
  simp only [aop]at j
  have ai: ∀y,ρ x≠ .chan y:=by intro y e;rw [e]at j;cases j
  have ax:cR (some (qq h (ah (ρ x)) e))=some (nx,h'):=by
   revert j;cases L:ρ x<;>intro j<;>first|exact j|exact absurd L (ai _)
  obtain⟨v,C,rfl⟩:=wv ax
  cases C
  have L:=(A x).cells ai
  obtain⟨F,G⟩:=oh H (el:=e) L (gy w (.cells (D x).cells e)) (Tr.sized_ofList _) (Tr.get_ofList _)
  exact⟨.pointer (some ⟨w.heap.size,0,none⟩),_,_,by simp [Instr.box,newVar,newRow],F,G,.ptr (uV mu h.n w.heap.size 0 _)⟩
 case buildSlice t n N=>
  obtain⟨v,C,rfl⟩:=wv j
  have hq:PL mu (N.toList.map fun p=>(p.1,ρ p.2)) (N.toList.map fun p=>(p.1,D p.2)):=LR.mapSame _ fun p=>⟨rfl,A p.2⟩
  obtain⟨Q,M,J,F,G,K,X⟩:=uk ok H C hq
  have e:(N.map fun(x:Nat×Operand)=>(x.1,D x.2))=(N.toList.map fun p=>(p.1,D p.2)).toArray:=by
   apply Xy;simp
  refine⟨Q,M,J,?_,G,K,X⟩
  simp only [Sem.run_bind]
  rw [e,F];rfl
 case makeSlice t l c=>
  obtain⟨v,C,rfl⟩:=wv j
  obtain⟨Q,M,J,F,G,K,X⟩:=uR ok H C (A l) (A c)
  exact⟨Q,M,J,by simp [F],G,K,X⟩
 case makeMap t r=>
  cases r with
  |some x=>simp only [aop]at j;obtain⟨v,C,rfl,rfl⟩:=wr j;cases C
  | none=>
    cases j
    obtain⟨F,G⟩:=lW (x:=.map [] 0) (base:=0) (top:=0) H (gy w (.map #[] 0)) ⟨rfl,#[],rfl,LR.nil⟩
    exact⟨.map (some w.heap.size),_,_,by simp [Instr.makeMap],F,G,.map (by unfold dp;rw [upd_same];exact⟨rfl,rfl⟩)⟩
 case lookup t m k q=>
  obtain⟨v,C,rfl,rfl⟩:=wr j
  obtain⟨Q,F,G⟩:=zw ok H C (A m) (A k)
  exact⟨Q,mu,w,by simp [F],H,Ext.refl mu _ w H,G⟩
 case mapUpdate t m k x=>
  obtain⟨C,rfl⟩:=wu j
  obtain⟨J,F,G,K⟩:=ug ok H C (A m) (A k) (A x)
  exact⟨mu,J,by simp [F],G,K⟩
 case insert t m k x=>
  obtain⟨C,rfl⟩:=wu j
  obtain⟨J,F,G,K⟩:=ug ok H C (A m) (A k) (A x)
  exact⟨mu,J,by simp [F],G,K⟩
 case mapEntry t m k=>
  obtain⟨v,C,rfl⟩:=wv j
  obtain⟨Q,J,F,G,K,X⟩:=AU ok H C (A m) (A k)
  exact⟨Q,mu,J,by simp [F],G,K,X⟩
 case entryStore t m s x=>
  obtain⟨C,rfl⟩:=wu j
  obtain⟨J,F,G,K⟩:=yk (P:=P) (t:=t) H C (A m) (A s) (A x)
  exact⟨mu,J,by simp [F],G,K⟩
 case panic x=>
  simp only [aop]at j
  have Y:=A x
  revert j
  cases L:ρ x<;>intro j<;>(try simp only []at j)<;>try (cases j;done)
  cases j
  rw [L]at Y
  cases S:D x<;>rw [S]at Y<;>cases Y
  rename_i C
  exact⟨rfl,_,by simp only [S];rfl,.iface C⟩
 case defer c=>
  simp only [aop]at j
  obtain⟨O,B,u⟩:=c
  cases O<;>(try simp only []at j)<;>try (cases j;done)
  rename_i f
  have Y:=A f
  revert j
  cases L:ρ f<;>intro j<;>(try simp only []at j)<;>try (cases j;done)
  rename_i fn a b
  cases fn<;>(try simp only []at j)<;>try (cases j;done)
  rename_i g
  cases j
  rw [L]at Y
  cases S:D f<;>rw [S]at Y<;>cases Y
  rename_i a' b' h1 h2 h3 h4
  refine⟨rfl,{target:=.fn (.func g) b',args:=a'++B.map D},?_,?_⟩
  . simp only [resolve,S,Deferred.ofValue];simp
  . refine⟨b',rfl,⟨h3,h4⟩,?_⟩
    simp only [Xh,Xd]
    exact LR.append ⟨h1,h2⟩ (W _)
 case call c=>
  obtain⟨O,B,u⟩:=c
  simp only [aop]at j
  cases O<;>(try simp only []at j)<;>try (cases j;done)
  case value f=>
   cases V:target (ρ f) (B.toList.map ρ)with
   |none=>simp [V]at j
   | some x=>
     simp only [V]at j
     cases j
     have:=AL (P:=P) (h:=h) (w:=w) (args':=B.map D) V (A f) (by rw [Xd];exact W _)
     exact this
  case builtin b =>
   have U: ∀{x:Operand} {l:List Operand},B.toList=x::l->(B.map D)[0]? =some (D x):=by
    intro x l e;rw [<-zM,Xd,e];rfl
   have Z: ∀{x y:Operand} {l:List Operand},B.toList=x::y::l->(B.map D)[1]? =some (D y):=by
    intro x y l e;rw [<-zM,Xd,e];rfl
   have ad: ∀{v:Value},pop E ρ (.call ⟨.builtin b,B,u⟩)=some v->nx=.val v->h'=h->Res P mu h w (do let d<-resolve D ⟨.builtin b,B,u⟩ R;invoke d.target d.args) h' nx:=by
    intro v C e1 e2
    subst e1;subst e2
    exact T C
   cases b
   case append=>
    simp only []at j
    cases I:B.toList with
    |nil=>simp [I]at j
    | cons x l=>
      cases l with
      |nil=>simp [I]at j
      | cons y l=>
        simp only [I]at j
        obtain⟨v,C,rfl⟩:=wv j
        obtain⟨Q,M,J,F,G,K,X⟩:=zS ok H (ty:=R) (U I) (Z I) C (A x) (A y)
        exact⟨Q,M,J,by simp [resolve,invoke,builtin,F],G,K,X⟩
   case copy=>
    simp only []at j
    cases I:B.toList with
    |nil=>simp [I]at j
    | cons x l=>
      cases l with
      |nil=>simp [I]at j
      | cons y l=>
        simp only [I]at j
        obtain⟨v,C,rfl⟩:=wv j
        obtain⟨Q,M,J,F,G,K,X⟩:=copyV_run ok H (ty:=R) (U I) (Z I) C (A x) (A y)
        exact⟨Q,M,J,by simp [resolve,invoke,builtin,F],G,K,X⟩
   case delete=>
    simp only []at j
    cases V:u.toList with
    |nil=>simp [V]at j
    | cons t ts=>
      cases I:B.toList with
      |nil=>simp [V,I]at j
      | cons x l=>
        cases l with
        |nil=>simp [V,I]at j
        | cons y l=>
          simp only [V,I]at j
          cases hd:lq E h t (ρ x) (ρ y)with
          |none=>simp [hd]at j
          | some h2=>
            simp only [hd]at j
            cases j
            obtain⟨J,F,G,K⟩:=Bg ok H (ty:=R) (ts:=u) (by rw [<-zM,V];rfl) (U I) (Z I) hd (A x) (A y)
            exact⟨.tuple #[],mu,J,by simp [resolve,invoke,builtin,F],G,K,.tuple rfl (by intro i v Q C;simp at C)⟩
   case recover=>
    simp only []at j
    cases j
    exact⟨rfl,by simp [resolve,invoke,builtin]⟩
   case len =>
    simp only []at j
    cases hp:pop E ρ (.call ⟨.builtin .len,B,u⟩)with
    |some v=>simp only [hp]at j;cases j;exact ad hp rfl rfl
    | none=>
      simp only [hp]at j
      cases I:B.toList with
      |nil=>simp [I]at j
      | cons x l =>
        simp only [I]at j
        have Y:=A x
        revert j
        cases L:ρ x<;>intro j<;>(try simp only []at j)<;>try (cases j;done)
        rename_i r
        cases r with
        |none=>simp at j
        | some r =>
          simp only []at j
          rw [L]at Y
          cases hg:h.get r with
          |none=>simp [hg]at j
          | some y=>
            simp only [hg]at j
            cases y<;>(try simp only []at j)<;>try (cases j;done)
            rename_i es ay
            cases V:u.toList with
            |nil=>simp [V]at j
            | cons t ts=>
              simp only [V]at j
              cases hu:E.und t with
              |none=>simp [hu]at j
              | some d=>
                simp only [hu]at j
                cases d<;>(try simp only []at j)<;>try (cases j;done)
                cases j
                cases S:D x<;>rw [S]at Y<;>cases Y
                rename_i c aL
                obtain⟨top,af,k1,k2,k3⟩:=ux H aL hg
                have e0:u[0]? =some t:=by rw [<-zM,V];rfl
                have e1:=U I
                rw [S]at e1
                have ak:es.length=af.size:=k3.1
                refine⟨.int .i64 af.size,mu,w,?_,H,Ext.refl mu _ w H,by rw [ak];exact .int _ _⟩
                have:(Builtin.len_ u R (B.map D)).run P w=.ok (.int .i64 af.size) w:=by
                 unfold Builtin.len_
                 simp only [e0,e1,Sem.run_bind,aR ok hu,Result.andThen_ok,iX k2]
                 rfl
                simp [resolve,invoke,builtin,this]
   all_goals (simp only []at j;obtain⟨v,C,e1,e2⟩:=wr j;exact ad C e1 e2)
 all_goals (simp only [aop]at j;obtain⟨v,C,rfl,rfl⟩:=wr j;exact T C)
end
end Go.Ab

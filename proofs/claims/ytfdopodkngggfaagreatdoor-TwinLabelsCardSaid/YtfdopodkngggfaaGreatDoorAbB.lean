/- A deterministic evaluator of the model's code, and that the model follows it (part 2). -/
import Derived.Test.YtfdopodkngggfaaGreatDoorAbA
import Derived.Laws.IdiomCopy
open Array renaming getElem?_toList->zM,toList_map->zR,toList_append->zV,getElem?_modify->zY,toList_modify->Xb,range->Xe,getElem?_push->Xk,ext'->Xm
open List renaming getElem?_append_left->zN,getElem?_eq_getElem->zO,all_eq_true->zP,getElem?_append_right->zU,getElem_mem->zX,length_map->Xf,mem_of_getElem?->Xi
open Nat renaming le_refl->zQ,zero_add->zZ,mul_le_mul_right->Xa,add_mul->Xd,min->Xh,mul_one->Xl
open Bool renaming false_eq_true->zS,not_eq_true->zT,and_self->zW,not_false->Xc,and_eq_false_iff->Xg,beq_comm->Xj
set_option maxHeartbeats 400000
set_option linter.defProp false
set_option linter.unusedVariables false
set_option linter.unusedSimpArgs false
namespace Go.Ab
section
variable{E:Env}{P:Program}(ok:EOk E P)
include ok
theorem pop_run{mu:Mu}{ρ ρ':Operand->Value}(hρ: ∀x,ao mu (ρ x) (ρ' x)){o:Oper}{v:Value}(h:pop E ρ o.op=some v)(w:World):
 ∃v',(execOp ρ' o).run P w=.ok (.value v') w/\ao mu v v':=by
 have vlist: ∀l:List Operand,VL mu (l.map ρ) (l.map ρ'):=fun l=>LR.mapSame l hρ
 unfold execOp
 obtain⟨dst,op,type,pos,after,guard⟩:=o
 simp only []at h⊢
 cases op<;>simp only [pop]at h<;>try (cases h;done)
 case move x=>cases h;exact⟨_,rfl,hρ x⟩
 case assign x=>cases h;exact⟨_,rfl,hρ x⟩
 case pick c a b=>
  have hc:=hρ c
  cases hr:ρ c<;>rw [hr]at h hc<;>(try simp only []at h)<;>try (cases h;done)
  rename_i t
  cases hr':ρ' c<;>rw [hr']at hc<;>cases hc
  cases h
  cases t
  . exact⟨_,by simp [asBool,hr'],hρ b⟩
  . exact⟨_,by simp [asBool,hr'],hρ a⟩
 case nilCheck x=>
  have hc:=hρ x
  cases hr:ρ x<;>rw [hr]at h hc<;>(try simp only []at h)<;>try (cases h;done)
  . rename_i a
    cases a with
    |none=>simp at h
    | some a=>
      cases h
      cases hr':ρ' x<;>rw [hr']at hc<;>cases hc
      rename_i a' ha
      exact⟨.pointer (some a'),by simp only [hr'];rfl,.ptr ha⟩
  . rename_i fn a b
    cases fn<;>(try simp only []at h)<;>try (cases h;done)
    cases h
    cases hr':ρ' x<;>rw [hr']at hc<;>cases hc
    rename_i h1 h2 h3 h4
    exact⟨_,by simp only [hr'];rfl,.fn h1 h2 h3 h4⟩
 case binOp op t x y u=>
  obtain⟨h1,h2,h3⟩:=binP_run ok h (hρ x) (hρ y) w
  exact⟨v,by simp [h1,h2],h3⟩
 case unOp op t x=>
  obtain⟨h1,h2⟩:=unP_run (P:=P) h (hρ x) w
  exact⟨v,by simp [h1],h2⟩
 case makeInterface t x=>
  cases hu:E.und t with
  |none=>simp [hu]at h
  | some d=>
    simp only [hu]at h
    cases d<;>(try simp only []at h)<;>try (cases h;done)
    all_goals (cases h;exact⟨.iface t (ρ' x),by simp [Instr.makeInterface,aR ok hu],.iface (hρ x)⟩)
 case makeFunc fn a b=>
  cases fn<;>(try simp only []at h)<;>try (cases h;done)
  cases h
  refine⟨_,rfl,.fn (by simp) ?_ (by simp) ?_⟩
  . have:=(vlist a.toList).2;simpa using this
  . have:=(vlist b.toList).2;simpa using this
 case slice t x l hi m=>
  obtain⟨v',h1,h2⟩:=zi ok h (hρ x) (OR.map hρ l) (OR.map hρ hi) (OR.map hρ m) w
  exact⟨v',by simp [h1],h2⟩
 case fieldAddr t x i=>
  obtain⟨v',h1,h2⟩:=ua ok h (hρ x) w
  exact⟨v',by simp [h1],h2⟩
 case field t x i=>
  obtain⟨v',h1,h2⟩:=zd ok h (hρ x) w
  exact⟨v',by simp [h1],h2⟩
 case indexAddr t x i=>
  obtain⟨v',h1,h2⟩:=tJ ok h (hρ x) (hρ i) w
  exact⟨v',by simp [h1],h2⟩
 case index t x i=>
  obtain⟨v',h1,h2⟩:=zC ok h (hρ x) (hρ i) w
  exact⟨v',by simp [h1],h2⟩
 case extract t i=>
  have hc:=hρ t
  cases hr:ρ t<;>rw [hr]at h hc<;>(try simp only []at h)<;>try (cases h;done)
  cases hr':ρ' t<;>rw [hr']at hc<;>cases hc
  rename_i vs vs' h1 h2
  obtain⟨v',g1,g2⟩:=LR.get (⟨h1,h2⟩:VL mu vs.toList vs'.toList) h
  have:vs'[i]? =some v':=by rw [<-zM];exact g1
  exact⟨v',by simp only [Instr.extract,hr',this];rfl,g2⟩
 case build t parts=>
  have hq:PL mu (parts.toList.map fun p=>(p.1,ρ p.2)) (parts.toList.map fun p=>(p.1,ρ' p.2)):=LR.mapSame _ fun p=>⟨rfl,hρ p.2⟩
  obtain⟨v',h1,h2⟩:=zf ok h hq w
  have e:(parts.map fun(x:Nat×Operand)=>(x.1,ρ' x.2))=(parts.toList.map fun p=>(p.1,ρ' p.2)).toArray:=by
   apply Xm;simp
  refine⟨v',?_,h2⟩
  simp only [Sem.run_bind]
  rw [e,h1];rfl
 case typeAssert x s t q=>
  obtain⟨v',h1,h2⟩:=xM ok (s:=s) h (hρ x) w
  exact⟨v',by simp [h1],h2⟩
 case call c=>
  obtain⟨callee,args,argTypes⟩:=c
  simp only []at h
  cases callee<;>(try simp only []at h)<;>try (cases h;done)
  rename_i b
  cases b<;>(try simp only []at h)<;>try (cases h;done)
  case len=>
   cases ht:argTypes.toList with
   |nil=>simp [ht]at h
   | cons t ts=>
     cases ha:args.toList with
     |nil=>simp [ht,ha]at h
     | cons x xs=>
       simp only [ht,ha]at h
       obtain⟨h1,h2⟩:=lenP_run ok (ts:=argTypes) (ty:=type) (xs:=args.map ρ') (by rw [ht];rfl) (by simp [ha]) h (hρ x) w
       exact⟨v,by simp [resolve,invoke,builtin,h1],h2⟩
  case min=>
   cases ha:args.toList.map ρ with
   |nil=>simp [ha]at h
   | cons x l=>
     simp only [ha]at h
     have hl:=vlist args.toList
     rw [ha]at hl
     obtain⟨x',l',e1,e2,e3⟩:=hl.cons_left
     cases l with
     | nil=>
       simp only [fQ]at h
       cases h
       rw [e3.nil_left]at e1
       exact⟨x',by simp [resolve,invoke,builtin,Builtin.min_,e1],e2⟩
     | cons y l=>
       obtain⟨v',g1,g2⟩:=sS (P:=P) false h e2 e3 (by intro c e;subst e;simp [fQ]at h) w
       simp only [zS,if_false]at g1
       exact⟨v',by simp [resolve,invoke,builtin,Builtin.min_,e1,g1],g2⟩
  case max=>
   cases ha:args.toList.map ρ with
   |nil=>simp [ha]at h
   | cons x l=>
     simp only [ha]at h
     have hl:=vlist args.toList
     rw [ha]at hl
     obtain⟨x',l',e1,e2,e3⟩:=hl.cons_left
     cases l with
     | nil=>
       simp only [fQ]at h
       cases h
       rw [e3.nil_left]at e1
       exact⟨x',by simp [resolve,invoke,builtin,Builtin.max_,e1],e2⟩
     | cons y l=>
       obtain⟨v',g1,g2⟩:=sS (P:=P) true h e2 e3 (by intro c e;subst e;simp [fQ]at h) w
       simp only [if_true]at g1
       exact⟨v',by simp [resolve,invoke,builtin,Builtin.max_,e1,g1],g2⟩
end
end Go.Ab

namespace Go.Ab

theorem wS(l:List Value)(off:Nat)(vs:List Value)(i:Nat)(h:off+vs.length<=l.length):
 (bM l off vs)[i]? =if off<=i/\i<off+vs.length then vs[i-off]? else l[i]? :=by
 induction vs generalizing l off with
 |nil=>simp only [bM,List.length_nil];rw [if_neg (by omega)]
 | cons v vs ih=>
   simp only [bM,List.length_cons]at h⊢
   rw [ih _ _ (by simp;omega)]
   by_cases h1:off+1<=i/\i<off+1+vs.length
   . rw [if_pos h1,if_pos (by omega),show i-off=(i-(off+1))+1 by omega];simp
   . rw [if_neg h1,List.getElem?_set]
     by_cases h2:off=i
     . subst h2;rw [if_pos rfl,if_pos (by omega),if_pos (by omega)];simp
     . rw [if_neg h2,if_neg (by omega)]

theorem setCells_at(c:Nat)(vs:List Value): ∀(o:Nat) (w:World) (cs:Array Value) (el:TypeId) (fz:Nat×Nat),w.heap[c]? =some (.cells cs el fz)->
 ∃cs2,WSet w (w.setCells c o vs) c (.cells cs2 el fz)/\cs2.toList=bM cs.toList o vs:=by
 induction vs with
 |nil=>intro o w cs el fz h;exact⟨cs,⟨rfl,h,fun _ _=>rfl,rfl,rfl,rfl⟩,rfl⟩
 | cons v vs ih=>
   intro o w cs el fz h
   have h1:(w.setCell ⟨c,o,none⟩ v).heap[c]? =some (.cells (cs.setIfInBounds o v) el fz):=by
    simp [World.setCell,zY,h]
   obtain⟨cs2,k1,k2⟩:=ih (o+1) (w.setCell ⟨c,o,none⟩ v) _ el fz h1
   refine⟨cs2,⟨?_,k1.at_,?_,k1.os,k1.tape,k1.output⟩,?_⟩
   . show((w.setCell ⟨c,o,none⟩ v).setCells c (o+1) vs).heap.size=_
     rw [k1.size];simp [World.setCell]
   . intro j hj
     show((w.setCell ⟨c,o,none⟩ v).setCells c (o+1) vs).heap[j]? =_
     rw [k1.other j hj]
     simp only [World.setCell,zY]
     rw [if_neg (Ne.symm hj)]
   . rw [k2];simp [bM]

section
variable{E:Env}{P:Program}

theorem ptr_at{mu:Mu}{h:Hp}{w:World}(hh:aJ mu h w){a a':Addr}(har:dM mu a a'){x:Blk}(hg:h.get a.block=some x)(hx:x≠ .dead):
 ∃c base top o,mu a.block=.blk c base top/\a'=⟨c,base+a.off,none⟩/\w.heap[c]? =some o/\kc mu x base top o:=by
 unfold dM at har
 cases hm:mu a.block with
 |none=>rw [hm]at har;exact har.elim
 |dead=>have:=hh.dead _ hm;rw [hg]at this;cases this;exact absurd rfl hx
 | blk c base top=>
   rw [hm]at har
   obtain⟨y,o,h1,h2,h3⟩:=hh.blk _ c base top hm
   rw [hg]at h1;cases h1
   exact⟨c,base,top,o,rfl,har,h2,h3⟩

theorem rI {mu:Mu} {h:Hp} {w:World} (hh:aJ mu h w) {a a':Addr} (har:dM mu a a') {n:Nat} {l:List Value} (hl:h.load a.block a.off n=some l):
 l.length=n/\ ∃l',VL mu l l'/\(∀(j:Nat) v',l'[j]? =some v'->w.cell? (a'.add j)=some v'):=by
 unfold Hp.load at hl
 cases hg:h.get a.block with
 |none=>simp [hg]at hl
 | some x=>
   simp only [hg]at hl
   cases x<;>simp only []at hl<;>try (cases hl;done)
   rename_i t sz el md
   obtain⟨c,base,top,o,hm,rfl,ho,hb⟩:=ptr_at hh har hg (by intro e;cases e)
   obtain⟨cs,el',fz,rfl,cr⟩:=hb
   rw [dB]at hl
   by_cases hc:a.off+n<=sz
   . simp only [hc,decide_true,cond_true]at hl
     obtain⟨h1,h2⟩:=Tr.slice_spec hl
     refine⟨h1,(List.range n).map (fun j=>cs.getD (base+(a.off+j)) default),?_,?_⟩
     . refine⟨by simp [h1],fun i v v' hv hv'=>?_⟩
       have hi:i<n:=by rw [<-h1];exact(List.getElem?_eq_some_iff.1 hv).1
       have:=h2 i hi
       rw [hv]at this
       obtain⟨u,hu,hr⟩:=cr.get _ _ this
       simp [hi]at hv'
       rw [<-hv',hu];exact hr
     . intro j v' hv'
       have hj:j<n:=by
        have:=(List.getElem?_eq_some_iff.1 hv').1;simpa using this
       simp [hj]at hv'
       obtain⟨v,hv⟩:=Tr.get_some cr.sized (show a.off+j<sz by omega)
       obtain⟨u,hu,_⟩:=cr.get _ _ hv
       rw [hu]at hv'
       rw [kX _ _ rfl]
       simp only [World.cell?,ho]
       rw [show base+a.off+j=base+(a.off+j) by omega]
       simp [hu,<-hv']
   . simp [hc]at hl

theorem p4 {mu:Mu} {h h':Hp} {w:World} (hh:aJ mu h w) {a a':Addr} (har:dM mu a a') {l l':List Value} (hl:h.store a.block a.off l=some h') (hr:VL mu l l'):
 ∃w',(storeCells a' l').run P w=.ok () w'/\aJ mu h' w'/\Ext mu h w mu h' w':=by
 unfold Hp.store at hl
 cases hg:h.get a.block with
 |none=>simp [hg]at hl
 | some x =>
   simp only [hg]at hl
   cases x<;>simp only []at hl<;>try (cases hl;done)
   rename_i t sz el md
   obtain⟨c,base,top,o,hm,rfl,ho,hb⟩:=ptr_at hh har hg (by intro e;cases e)
   obtain⟨cs,el',fz,rfl,cr⟩:=hb
   rw [dB,cv]at hl
   by_cases hc:a.off+l.length<=sz/\md≠0/\l.all iM=true
   . obtain⟨hc1,hc2,hc3⟩:=hc
     simp only [hc1,hc2,hc3,decide_true,decide_false,Xc,zW,cond_true]at hl
     cases hl
     have hlen:=hr.1
     have hfits:=cr.fits
     have hwhole:=cr.whole
     obtain⟨cs2,ws,e2⟩:=setCells_at c l' (base+a.off) w cs el' fz ho
     have hone: ∀v∈l',v.oneCell'=true:=by
      intro v hv
      obtain⟨i,hi⟩:=List.mem_iff_getElem?.1 hv
      have hi':i<l.length:=by rw [hlen];exact(List.getElem?_eq_some_iff.1 hi).1
      have:=hr.2 i _ v (zO hi') hi
      refine this.flat ?_
      simp only [zP]at hc3
      exact hc3 _ (zX hi')
     have hrun:=run_storeCells_cells (P:=P) c (base+a.off) l' 0 w (fun j hj=>by
      simp only [World.cell?,ho]
      simp
      omega) (fun j hj=>by
      simp only [World.frozen?,ho]
      have:=cr.free hc2 (base+a.off+0+j) (by omega)
      simp only [Xg,decide_eq_false_iff_not]
      by_cases hx:fz.1<=base+a.off+0+j
      . right;exact fun hy=>this ⟨hx,hy⟩
      . left;exact hx) hone
     rw [Nat.add_zero]at hrun
     refine⟨_,hrun,?_⟩
     refine rE hh hm ?_ ws ?_
     . intro t' sz' el'' e;rw [hg]at e;cases e;exact hc2 rfl
     . refine⟨cs2,el',fz,rfl,?_,hfits,Tr.sized_setAll _ _ cr.sized,?_,?_⟩
       . have:cs2.toList.length=cs.toList.length:=by rw [e2,oA]
         simpa [hwhole]using this
       . intro i v hv
         rw [Tr.get_setAll _ _ _ _ cr.sized hc1]at hv
         rw [<-zM,e2,wS _ _ _ _ (show base+a.off+l'.length<=cs.toList.length by have:cs.toList.length=cs.size:=rfl;omega)]
         by_cases hin:a.off<=i/\i<a.off+l.length
         . rw [if_pos hin]at hv
           rw [if_pos (by omega),show base+i-(base+a.off)=i-a.off by omega]
           exact hr.get hv
         . rw [if_neg hin]at hv
           rw [if_neg (by omega),zM]
           exact cr.get _ _ hv
       . intro _ i hi
         have:cs2.size=cs.size:=by
          have:cs2.toList.length=cs.toList.length:=by rw [e2,oA]
          simpa using this
         exact cr.free hc2 i (by omega)
   . have:(decide (a.off+l.length<=sz)&& !decide (md=0)&&l.all iM)=false:=by
      rw [<-zT];simpa [and_assoc]using hc
     rw [this]at hl;simp at hl

theorem mZ{mu:Mu}{h:Hp}{w w':World}(hh:aJ mu h w){l:List Value}{l':Array Value}{el el':TypeId}(hr:VL mu l l'.toList)(hw:WNew w w' (.cells l' el')){t:Tr Value}(ht:t.Sized l.length)(hg: ∀i,t.get i=l[i]?):
 aJ (upd mu h.n (.blk w.heap.size 0 l'.size)) (h.new (.cells t l.length el 1)) w'/\Ext mu h w (upd mu h.n (.blk w.heap.size 0 l'.size)) (h.new (.cells t l.length el 1)) w':=by
 refine li hh hw ⟨l',el',(0,0),rfl,rfl,?_,ht,?_,?_⟩
 . have:=hr.1;simp at this;omega
 . intro i v hv
   rw [hg]at hv
   obtain⟨v',h1,h2⟩:=hr.get hv
   exact⟨v',by rw [zZ,<-zM];exact h1,h2⟩
 . intro _ i _ hx;omega
theorem tH(mu:Mu)(b c base top:Nat):dM (upd mu b (.blk c base top)) ⟨b,0,none⟩ ⟨c,base,none⟩:=by
 unfold dM;rw [upd_same];simp
end
end Go.Ab

namespace Go.Ab
section
variable{E:Env}{P:Program}(ok:EOk E P)

theorem oC : ∀(l m:List Value) {r:Bool},cP l m=some r->(∀v∈l,mq v=true)/\(∀v∈m,mq v=true)/\l.length=m.length/\(r=true↔l=m):=by
 intro l
 induction l with
 | nil=>
   intro m r h
   cases m with
   |nil=>simp only [cP]at h;cases h;simp
   |cons b m=>simp [cP]at h
 | cons a l ih=>
   intro m r h
   cases m with
   |nil=>cases a<;>simp [cP]at h
   | cons b m=>
     cases a<;>(try (simp [cP]at h;done))
     cases b<;>(try (simp [cP]at h;done))
     rename_i k x k' y
     simp only [cP,fI]at h
     by_cases hk:k=k'
     . subst hk
       simp only [decide_true,cond_true]at h
       cases hl:cP l m with
       |none=>simp [hl]at h
       | some q=>
         rw [hl]at h
         simp only []at h
         obtain⟨h1,h2,h3,h4⟩:=ih m hl
         refine⟨fun v hv=>?_,fun v hv=>?_,by simp [h3],?_⟩
         . rcases List.mem_cons.1 hv with rfl|hv
           . rfl
           . exact h1 v hv
         . rcases List.mem_cons.1 hv with rfl|hv
           . rfl
           . exact h2 v hv
         . rw [gG]at h
           by_cases hx:x=y
           . subst hx
             simp at h
             subst h
             rw [h4]
             simp
           . simp [hx]at h
             subst h
             simp [hx]
     . simp [hk]at h
theorem xR: ∀(l m:List Value) {r:Bool},cP l m=some r->cP m l=some r:=by
 intro l
 induction l with
 | nil=>
   intro m r h
   cases m with
   |nil=>exact h
   |cons b m=>simp [cP]at h
 | cons a l ih=>
   intro m r h
   cases m with
   |nil=>cases a<;>simp [cP]at h
   | cons b m=>
     cases a<;>(try (simp [cP]at h;done))
     cases b<;>(try (simp [cP]at h;done))
     rename_i k x k' y
     simp only [cP,fI]at h⊢
     by_cases hk:k=k'
     . subst hk
       simp only [decide_true,cond_true]at h⊢
       cases hl:cP l m with
       |none=>simp [hl]at h
       | some q=>
         rw [hl]at h
         rw [ih m hl]
         simp only []at h⊢
         rw [gG]at h⊢
         rw [<-h,show(y==x)=(x==y)from Xj ..]
     . simp [hk]at h
theorem sameBits_self{v:Value}(h:mq v=true)(n:Nat):Instr.sameBits n v v=true:=by
 cases v<;>simp only [mq]at h<;>(try (cases h;done))
 cases n<;>simp [Instr.sameBits]
theorem og{a b:Value}(h:cq a b=some true): ∀n,Instr.sameBits (n+1) a b=true:=by
 intro n
 unfold cq at h
 cases a<;>(try (simp at h;done))<;>cases b<;>(try (simp at h;done))
 . rename_i x y
   cases x<;>cases y<;>simp at h<;>rfl
 . rename_i k x k' y
   simp only []at h
   rw [fI,gG]at h
   by_cases hk:k=k'
   . subst hk;simp at h;subst h;simp [Instr.sameBits]
   . simp [hk]at h
 . rename_i s u
   simp only []at h
   rw [iG]at h
   simp at h
   have:s=u:=by cases s;cases u;simp [aH]at h;simp [h]
   subst this
   have hb:(s==s)=true:=by show(s.data==s.data)=true;simp
   simp [Instr.sameBits,hb]
 . rename_i x y
   simp only []at h
   obtain⟨h1,_,_,h4⟩:=oC _ _ h
   have e:x=y:=by
    have:=h4.1 rfl
    cases x;cases y;simpa using this
   subst e
   simp only [Instr.sameBits,beq_self_eq_true,Bool.true_and,zP]
   have: ∀(l:List Value),(∀v∈l,mq v=true)-> ∀p∈l.zip l,Instr.sameBits n p.1 p.2=true:=by
    intro l
    induction l with
    |nil=>intro _ p hp;simp at hp
    | cons v l ih=>
      intro hl p hp
      rw [List.zip_cons_cons]at hp
      rcases List.mem_cons.1 hp with rfl|hp
      . exact sameBits_self (hl v (by simp)) n
      . exact ih (fun u hu=>hl u (by simp [hu])) p hp
   exact this _ h1
theorem sZ{a b:Value}(t:Bool)(h:cq a b=some t):cq b a=some t:=by
 unfold cq at*
 cases a<;>(try (simp at h;done))<;>cases b<;>(try (simp at h;done))
 . rename_i x y;cases x<;>cases y<;>simp at h⊢ <;>exact h
 . rename_i k x k' y
   simp only []at h⊢
   rw [fI,gG]at*
   by_cases hk:k=k'
   . subst hk;simp at h⊢;rw [<-h];exact Xj ..
   . simp [hk]at h
 . simp only []at h⊢
   rw [iG]at*
   rw [<-h];congr 1;exact Xj ..
 . exact xR _ _ h

def fV:TypeDesc->Bool
 | .array _ _=>true
 |_=>false
theorem pC{kt:TypeId}{k k':Value}{d:TypeDesc}{t:Bool}(hd:fV d=false)(hu:E.und kt=some d)(hf:aW E kt k=true)(h:cq k k'=some t):Instr.sameNow d k k'=some t:=by
 unfold aW at hf
 simp only [hu]at hf
 unfold cq at h
 cases d<;>simp only []at hf<;>try (cases hf;done)
 . cases k<;>simp only []at hf<;>try (cases hf;done)
   cases k'<;>simp only []at h<;>try (cases h;done)
   rename_i a b;cases h;cases a<;>cases b<;>rfl
 . cases k<;>simp only []at hf<;>try (cases hf;done)
   cases k'<;>simp only []at h<;>try (cases h;done)
   rename_i k1 a k2 b
   rw [fI,gG]at h
   by_cases hk:k1=k2
   . subst hk;simp at h;simp [Instr.sameNow,h]
   . simp [hk]at h
 . cases k<;>simp only []at hf<;>try (cases hf;done)
   cases k'<;>simp only []at h<;>try (cases h;done)
   rename_i a b
   rw [iG]at h
   cases h
   simp only [Instr.sameNow]
   congr 1
   rw [show(a==b)=(a.data==b.data)from rfl,<-Array.beq_toList];rfl
 . cases hd
theorem kp {kt e:TypeId} {k:Value} {n:Nat} (hu:E.und kt=some (.array n e)) (hf:aW E kt k=true): ∃(cs:Array Value) (kd:IntKind),k=.agg cs/\E.agg e=some false/\E.sz e=some 1/\cs.toList.length=n/\E.und e=some (.int kd)/\ ∀v∈cs.toList,∃x,v=.int kd x:=by
 unfold aW at hf
 simp only [hu]at hf
 cases k<;>simp only []at hf<;>try (cases hf;done)
 rename_i cs
 cases h1:E.agg e with
 |none=>simp [h1]at hf
 | some b=>
   cases b with
   |true=>simp [h1]at hf
   | false =>
     cases h2:E.sz e with
     |none=>simp [h1,h2]at hf
     | some s=>
       cases h3:E.und e with
       |none=>simp [h1,h2,h3]at hf
       | some d=>
         rw [h1,h2,h3]at hf
         cases d<;>simp only []at hf<;>try (cases hf;done)
         rename_i kd
         simp only [cv]at hf
         by_cases hs:s=1
         . by_cases hl:cs.toList.length=n
           . simp only [hs,hl,decide_true,cond_true,zP]at hf
             refine⟨cs,kd,rfl,rfl,by rw [hs],hl,rfl,fun v hv=>?_⟩
             have:=hf v hv
             cases v<;>simp only [isKd]at this<;>try (cases this;done)
             rename_i kd' x
             rw [fI]at this
             simp at this
             subst this
             exact⟨x,rfl⟩
           . simp only [hs,hl,decide_true,decide_false,cond_true,cond_false]at hf
             cases hf
         . simp only [hs,decide_false,cond_false]at hf
           cases hf
theorem fits_ok{kt:TypeId}{k:Value}(hf:aW E kt k=true):qI k=true:=by
 cases hu:E.und kt with
 |none=>unfold aW at hf;simp [hu]at hf
 | some d=>
   cases ha:fV d with
   | true=>
     cases d<;>simp only [fV]at ha<;>try (cases ha;done)
     obtain⟨cs,kd,rfl,_,_,_,_,hv⟩:=kp hu hf
     simp only [qI,zP]
     intro v h
     obtain⟨x,rfl⟩:=hv v h
     rfl
   | false=>
     unfold aW at hf
     simp only [hu]at hf
     cases d<;>simp only []at hf<;>(try (cases hf;done))<;>(try (cases ha;done))<;>(cases k<;>simp only []at hf<;>(try (cases hf;done))<;>rfl)

include ok in
theorem iv {kt:TypeId} {k:Value} (hf:aW E kt k=true) (b:Bool) (w:World):(Instr.checkKey b 10000 kt k).run P w=.ok () w:=by
 cases hu:E.und kt with
 |none=>unfold aW at hf;simp [hu]at hf
 | some d=>
   show((Instr.checkKey b (9998+1+1) kt k)).run P w=_
   cases ha:fV d with
   | true=>
     cases d<;>simp only [fV]at ha<;>try (cases ha;done)
     rename_i n e
     obtain⟨cs,kd,rfl,h1,h2,h3,h4,hv⟩:=kp hu hf
     unfold Instr.checkKey
     simp only [Sem.run_bind,aR ok hu,Result.andThen_ok,dI ok h2]
     have elem: ∀i,i<n-> ∃v,(part e cs (i*1)).run P w=.ok v w/\(Instr.checkKey b (9998+1) e v).run P w=.ok () w:=by
      intro i hi
      have hlt:i<cs.toList.length:=by omega
      obtain⟨x,hx⟩:=hv _ (zX hlt)
      refine⟨cs.toList[i],?_,?_⟩
      . unfold part
        have:cs[i]? =some cs.toList[i]:=by rw [<-zM,zO hlt]
        rw [Xl]
        simp only [Sem.run_bind,qH ok h1,Result.andThen_ok]
        simp only [this]
        rfl
      . rw [hx]
        unfold Instr.checkKey
        simp only [Sem.run_bind,aR ok h4,Result.andThen_ok]
        rfl
     have key: ∀(m i:Nat),i+m<=n->(forIn (List.range' i m) PUnit.unit (fun i _=>do
      let s<-sizeOf e
      let c<-part e cs (i*s)
      Instr.checkKey b (9998+1) e c
      pure (ForInStep.yield PUnit.unit)):Sem PUnit).run P w=.ok PUnit.unit w:=by
      intro m
      induction m with
      |zero=>intro i _;simp
      | succ m ihm=>
        intro i hi
        obtain⟨v,e1,e2⟩:=elem i (by omega)
        simp only [List.range'_succ,List.forIn_cons,Sem.run_bind,dI ok h2,e1,e2,Result.andThen_ok]
        simpa using ihm (i+1) (by omega)
     have:=key n 0 (by omega)
     simp only [Std.Legacy.Range.forIn_eq_forIn_range',Std.Legacy.Range.size]
     rw [show(n-0+1-1)/1=n by omega]
     simp at this⊢
     rw [this]
     rfl
   | false=>
     unfold aW at hf
     simp only [hu]at hf
     unfold Instr.checkKey
     simp only [Sem.run_bind,aR ok hu,Result.andThen_ok]
     cases d<;>simp only []at hf<;>(try (cases hf;done))<;>(try (cases ha;done))
     all_goals (cases k<;>simp only []at hf<;>(try (cases hf;done))<;>rfl)

theorem elems_arr {e:TypeId} {kd:IntKind} (h1:E.agg e=some false) (h4:E.und e=some (.int kd)): ∀(l m:List Value) {r:Bool},cP l m=some r->(∀v∈l,∃x,v=.int kd x)-> ∀(p q:List Value),p.length=q.length->kW E (dE E 39) e 1 (p++l) (q++m) l.length p.length=some r:=by
 intro l
 induction l with
 | nil=>
   intro m r h _ p q _
   cases m with
   |nil=>simp only [cP]at h;cases h;rfl
   |cons b m=>simp [cP]at h
 | cons a l ih=>
   intro m r h hv p q hpq
   obtain⟨x,rfl⟩:=hv a (by simp)
   cases m with
   |nil=>simp [cP]at h
   | cons b m=>
     cases b<;>(try (simp [cP]at h;done))
     rename_i k' y
     simp only [cP]at h
     have g1:partOf E e (p++ .int kd x::l) (p.length*1)=some (.int kd x):=by
      unfold partOf;rw [h1];simp
     have g2:partOf E e (q++ .int k' y::m) (p.length*1)=some (.int k' y):=by
      unfold partOf;rw [h1,hpq];simp
     cases hk:jX kd k' with
     |false=>rw [hk]at h;simp at h
     | true=>
       rw [hk]at h
       simp only [cond_true]at h
       have g3:dE E 39 e (.int kd x) (.int k' y)=some (iC x y):=by
        show dE E (38+1) e _ _=_
        unfold dE
        simp only [h4,hk,cond_true]
       cases hl:cP l m with
       |none=>simp [hl]at h
       | some z=>
         rw [hl]at h
         simp only []at h
         simp only [List.length_cons,kW,g1,g2,g3]
         cases hx:iC x y with
         |false=>rw [hx]at h;simpa using h
         | true=>
           rw [hx]at h
           simp only [cond_true]at h
           simp only []
           cases h
           have:=ih m hl (fun v hm=>hv v (by simp [hm])) (p++[.int kd x]) (q++[.int k' y]) (by simp [hpq])
           simpa using this
theorem ao.ints(mu:Mu){cs:Array Value}(h: ∀v∈cs.toList,mq v=true):ao mu (.agg cs) (.agg cs):=by
 refine .agg rfl fun i v v' hv hv'=>?_
 rw [hv]at hv'
 cases hv'
 have:=h v (Xi hv)
 cases v<;>simp only [mq]at this<;>try (cases this;done)
 exact .int _ _
include ok in
theorem uC{kt e:TypeId}{n:Nat}{k k':Value}{t:Bool}(mu:Mu)(hu:E.und kt=some (.array n e))(hf:aW E kt k=true)(h:cq k k'=some t)(w:World):(Op.equal kt k k').run P w=.ok t w:=by
 obtain⟨cs,kd,rfl,h1,h2,h3,h4,hv⟩:=kp hu hf
 unfold cq at h
 cases k'<;>simp only []at h<;>try (cases h;done)
 rename_i ds
 obtain⟨i1,i2,_,_⟩:=oC _ _ h
 have hq:dE E 40 kt (.agg cs) (.agg ds)=some t:=by
  show dE E (39+1) kt (.agg cs) (.agg ds)=some t
  unfold dE
  simp only [hu,h2]
  have:=elems_arr h1 h4 cs.toList ds.toList h hv [] [] rfl
  rw [h3]at this
  exact this
 exact wU ok 40 Op.maxDepth (by decide) hq (ao.ints mu i1) (ao.ints mu i2) w
theorem xw{mu:Mu}{kt:TypeId}{k:Value}{d:TypeDesc}(hd:fV d=false)(hu:E.und kt=some d)(hf:aW E kt k=true){es:List (Value×Value×Nat)}{es':List MapEntry}(hm:kj mu es es')
 (h:cd k es=some none) (i:Nat):Instr.findNow d k es' i=some none:=by
 induction es generalizing es' i with
 |nil=>rw [hm.nil_left];rfl
 | cons e es ih=>
   obtain⟨e',r,rfl,h1,h2⟩:=LR.cons_left hm
   obtain⟨a,b,n⟩:=e
   simp only [cd]at h
   cases hk:cq k a with
   |none=>simp [hk]at h
   | some t=>
     cases t with
     |true=>simp [hk]at h
     | false=>
       simp only [hk]at h
       have:=pC hd hu hf hk
       simp only []at h1
       simp only [Instr.findNow,h1.1,this]
       exact ih h2 h _
include ok in
theorem wV{mu:Mu}{kt e:TypeId}{n:Nat}{k:Value}(hu:E.und kt=some (.array n e))(hf:aW E kt k=true){es:List (Value×Value×Nat)}{es':List MapEntry}(hm:kj mu es es')
 (h:cd k es=some none) (i:Nat) (w:World):(Instr.findAsking kt k es' i).run P w=.ok none w:=by
 induction es generalizing es' i with
 |nil=>rw [hm.nil_left];rfl
 | cons x es ih=>
   obtain⟨e',r,rfl,h1,h2⟩:=LR.cons_left hm
   obtain⟨a,b,m⟩:=x
   simp only [cd]at h
   cases hk:cq k a with
   |none=>simp [hk]at h
   | some t=>
     cases t with
     |true=>simp [hk]at h
     | false=>
       simp only [hk]at h
       simp only []at h1
       have hq:=uC ok mu hu hf hk w
       simp only [Instr.findAsking,Sem.run_bind,h1.1,hq,Result.andThen_ok]
       simpa using ih h2 h (i+1)
theorem qY{d:TypeDesc}{kt:TypeId}{k:Value}(hd:fV d=true)(hu:E.und kt=some d)(hf:aW E kt k=true)(x:MapEntry)(es:List MapEntry)(i:Nat):Instr.findNow d k (x::es) i=none:=by
 cases d<;>simp only [fV]at hd<;>try (cases hd;done)
 obtain⟨cs,kd,rfl,_⟩:=kp hu hf
 rfl
include ok in
theorem kP{mu:Mu}{kt:TypeId}{k:Value}{d:TypeDesc}(hu:E.und kt=some d)(hf:aW E kt k=true){es:List (Value×Value×Nat)}{es':List MapEntry}(hm:kj mu es es')
 (h:cd k es=some none) (w:World):(Instr.findKey kt k es').run P w=.ok none w:=by
 unfold Instr.findKey
 simp only [Sem.run_bind,aR ok hu,Result.andThen_ok]
 cases ha:fV d with
 |false=>rw [xw ha hu hf hm h 0];rfl
 | true=>
   cases es' with
   |nil=>rfl
   | cons x es'=>
     rw [qY ha hu hf]
     cases d<;>simp only [fV]at ha<;>try (cases ha;done)
     exact wV ok hu hf hm h 0 w
include ok in
theorem find_some{mu:Mu}{kt:TypeId}{k:Value}{d:TypeDesc}(hu:E.und kt=some d)(hf:aW E kt k=true){es:List (Value×Value×Nat)}{es':List MapEntry}(hm:kj mu es es')
 {v:Value} {n:Nat} (h:cd k es=some (some (v,n))) (w:World) (i:Nat):
 ∃ j e',es'[j]? =some e'/\(fV d=false->Instr.findNow d k es' i=some (some (i+j,e'.val)))/\(fV d=true->(Instr.findAsking kt k es' i).run P w=.ok (some (i+j,e'.val)) w)/\ao mu v e'.val/\e'.born=n/\cq k e'.key=some true/\
   (∀v2 v2',ao mu v2 v2'->kj mu (j9 k v2 es) (es'.set j {e' with key:=k,val:=v2'}))/\kj mu (jr k es) (es'.eraseIdx j):=by
 have ask:fV d=true-> ∀{a:Value} {t:Bool},cq k a=some t->(Op.equal kt k a).run P w=.ok t w:=fun ha a t hk=>by
  cases d<;>simp only [fV]at ha<;>try (cases ha;done)
  exact uC ok mu hu hf hk w
 induction es generalizing es' i with
 |nil=>simp [cd]at h
 | cons e es ih=>
   obtain⟨e',r,rfl,h1,h2⟩:=LR.cons_left hm
   obtain⟨a,b,m⟩:=e
   simp only [cd]at h
   simp only []at h1
   cases hk:cq k a with
   |none=>simp [hk]at h
   | some t=>
     cases t with
     | true=>
       simp only [hk]at h
       cases h
       have hok:qI k=true:=fits_ok hf
       refine⟨0,e',rfl,fun hd=>by simp [Instr.findNow,h1.1,pC hd hu hf hk],fun hd=>by simp [Instr.findAsking,Sem.run_bind,h1.1,ask hd hk],h1.2.2.1,h1.2.2.2,by rw [h1.1];exact hk,?_,?_⟩
       . intro v2 v2' hv
         simp only [j9,hk,List.set_cons_zero]
         exact LR.cons ⟨rfl,hok,hv,h1.2.2.2⟩ h2
       . simp only [jr,hk,List.eraseIdx_zero];exact h2
     | false=>
       simp only [hk]at h
       obtain⟨j,e2,g1,g2,g2',g3,g4,g5,g6,g7⟩:=ih h2 h (i+1)
       refine⟨j+1,e2,by simpa using g1,fun hd=>?_,fun hd=>?_,g3,g4,g5,?_,?_⟩
       . simp only [Instr.findNow,h1.1,pC hd hu hf hk,g2 hd];rw [show i+1+j=i+(j+1) by omega]
       . simp only [Instr.findAsking,Sem.run_bind,h1.1,ask hd hk,Result.andThen_ok]
         rw [show i+(j+1)=i+1+j by omega]
         simpa using g2' hd
       . intro v2 v2' hv
         simp only [j9,hk,List.set_cons_succ]
         exact LR.cons h1 (g6 v2 v2' hv)
       . simp only [jr,hk,List.eraseIdx_cons_succ]
         exact LR.cons h1 g7
include ok in
theorem kM{mu:Mu}{kt:TypeId}{k:Value}{d:TypeDesc}(hu:E.und kt=some d)(hf:aW E kt k=true){es:List (Value×Value×Nat)}{es':List MapEntry}(hm:kj mu es es')
 {v:Value} {n:Nat} (h:cd k es=some (some (v,n))) (w:World):
 ∃ j e',es'[j]? =some e'/\(Instr.findKey kt k es').run P w=.ok (some (j,e'.val)) w/\ao mu v e'.val/\e'.born=n/\cq k e'.key=some true/\
   (∀v2 v2',ao mu v2 v2'->kj mu (j9 k v2 es) (es'.set j {e' with key:=k,val:=v2'}))/\kj mu (jr k es) (es'.eraseIdx j):=by
 obtain⟨j,e',f1,f2,f2',f3,f4,f5,f6,f7⟩:=find_some ok hu hf hm h w 0
 refine⟨j,e',f1,?_,f3,f4,f5,f6,f7⟩
 unfold Instr.findKey
 simp only [Sem.run_bind,aR ok hu,Result.andThen_ok]
 rw [zZ]at f2 f2'
 cases ha:fV d with
 |false=>rw [f2 ha];rfl
 | true=>
   cases es' with
   |nil=>simp at f1
   |cons x es'=>rw [qY ha hu hf];exact f2' ha
theorem zn{mu:Mu}{n:Nat}{v v':Value}(hv:ao mu v v'){es es2:List (Value×Value×Nat)}{es':List MapEntry}(hm:kj mu es es')(h:ic n v es=some es2):
 ∃j e',es'.findIdx? (fun e=>(e.born:Int)==(n:Int))=some j/\es'[j]? =some e'/\kj mu es2 (es'.set j {e' with val:=v'}):=by
 induction es generalizing es' es2 with
 |nil=>simp [ic]at h
 | cons e es ih=>
   obtain⟨e',r,rfl,h1,h2⟩:=LR.cons_left hm
   obtain⟨a,b,m⟩:=e
   simp only [ic,cv]at h
   simp only []at h1
   by_cases hmn:m=n
   . subst hmn
     simp only [decide_true,cond_true]at h
     cases h
     refine⟨0,e',?_,rfl,?_⟩
     . simp [List.findIdx?_cons,h1.2.2.2]
     . exact LR.cons ⟨h1.1,h1.2.1,hv,h1.2.2.2⟩ h2
   . simp only [hmn,decide_false,cond_false]at h
     cases hs:ic n v es with
     |none=>simp [hs]at h
     | some l=>
       simp only [hs]at h
       cases h
       obtain⟨j,e2,g1,g2,g3⟩:=ih h2 hs
       refine⟨j+1,e2,?_,by simpa using g2,?_⟩
       . have:((e'.born:Int)==(n:Int))=false:=by rw [h1.2.2.2];simp;omega
         simp [List.findIdx?_cons,this,g1]
       . simp only [List.set_cons_succ];exact LR.cons h1 g3
end
end Go.Ab

namespace Go.Ab

def kK(mu:Mu)(d d':Deferred):Prop:=match d.target with
 | .fn (.func f) cap=> ∃cap',d'.target=.fn (.func f) cap'/\VL mu cap.toList cap'.toList/\VL mu d.args.toList d'.args.toList
 | .collected b=> ∃c,d'.target=.collected c/\di mu b c
 |_=>False

theorem pu{α:Type}{l:List α}{j:Nat}{e:α}(h:l[j]? =some e)(f:α->α):l.modify j f=l.set j (f e):=by
 apply List.ext_getElem?
 intro i
 rw [List.getElem?_modify,List.getElem?_set]
 by_cases hij:j=i
 . subst hij
   rw [if_pos rfl,if_pos (List.getElem?_eq_some_iff.1 h).1,h];simp
 . simp [hij]

section
variable{E:Env}{P:Program}(ok:EOk E P)

def Res(P:Program)(mu:Mu)(h:Hp)(w:World)(s:Sem Next)(h':Hp):c9->Prop
 | .val v=> ∃v' mu' w',s.run P w=.ok (.value v') w'/\aJ mu' h' w'/\Ext mu h w mu' h' w'/\ao mu' v v'
 | .skip=> ∃mu' w',s.run P w=.ok .skip w'/\aJ mu' h' w'/\Ext mu h w mu' h' w'
 | .call f args=>h'=h/\ ∃args',s.run P w=(callFunc f args').run P w/\VL mu args args'.toList
 | .yield b args=>h'=h/\ ∃c args',s.run P w=(Instr.yield c args').run P w/\di mu b c/\VL mu args args'.toList
 | .recov=>h'=h/\s.run P w=.ok .recover w
 | .defer d=>h'=h/\ ∃d',s.run P w=.ok (.defer d') w/\kK mu d d'
 | .panic v=>h'=h/\ ∃v',s.run P w=.halt (.panic v') w/\ao mu v v'

theorem xz{w:World}{r:Nat}{o:Obj}(h: ∃q,w.heap[r]? =some q):WSet w {w with heap:=w.heap.setIfInBounds r o} r o:=by
 obtain⟨q,hq⟩:=h
 have hr:r<w.heap.size:=(Array.getElem?_eq_some_iff.1 hq).1
 refine⟨by simp,by simp [hr],fun j hj=>?_,rfl,rfl,rfl⟩
 show(w.heap.setIfInBounds r o)[j]? =_
 rw [Array.getElem?_setIfInBounds];rw [if_neg (Ne.symm hj)]

theorem sK{mu:Mu}{h:Hp}{w:World}(hh:aJ mu h w){b c:Nat}(hp:di mu b c){es:List (Value×Value×Nat)}{clock:Nat}(hg:h.get b=some (.map es clock)):
 ∃top es',mu b=.blk c 0 top/\w.heap[c]? =some (.map es' clock)/\kj mu es es'.toList:=by
 unfold di at hp
 cases hm:mu b with
 |none=>rw [hm]at hp;exact hp.elim
 |dead=>have:=hh.dead _ hm;rw [hg]at this;cases this
 | blk c' base top=>
   rw [hm]at hp
   obtain⟨rfl,rfl⟩:=hp
   obtain⟨y,o,h1,h2,h3⟩:=hh.blk _ c 0 top hm
   rw [hg]at h1;cases h1
   obtain⟨_,es',rfl,h4⟩:=h3
   exact⟨top,es',rfl,h2,h4⟩
theorem lC{mu:Mu}{h:Hp}{w:World}(hh:aJ mu h w){b c top:Nat}{es es2:List (Value×Value×Nat)}{clock clock2:Nat}(hg:h.get b=some (.map es clock))(hm:mu b=.blk c 0 top)
 {es' es2':Array MapEntry} (hw:w.heap[c]? =some (.map es' clock)) (hr:kj mu es2 es2'.toList):
 (setObj c (.map es2' clock2)).run P w=.ok () {w with heap:=w.heap.setIfInBounds c (.map es2' clock2)}/\
 aJ mu (h.put b (.map es2 clock2)) {w with heap:=w.heap.setIfInBounds c (.map es2' clock2)}/\Ext mu h w mu (h.put b (.map es2 clock2)) {w with heap:=w.heap.setIfInBounds c (.map es2' clock2)}:=by
 refine⟨by simp [setObj,Sem.run,hw],?_⟩
 exact rE hh hm (by intro t sz el e;rw [hg]at e;cases e) (xz ⟨_,hw⟩) ⟨rfl,es2',rfl,hr⟩
theorem iJ{w:World}{c:Nat}{es:Array MapEntry}{clock:Nat}(hw:w.heap[c]? =some (.map es clock)):(getObj c).run P w=.ok (.map es clock) w:=by
 simp [getObj,Sem.run,hw]

include ok
theorem ur{mu:Mu}{h:Hp}{w:World}(hh:aJ mu h w){t:TypeId}{x x' v:Value}(hl:eo E h t x=some v)(hx:ao mu x x'):
 ∃v',(Instr.loadAt t x').run P w=.ok v' w/\ao mu v v':=by
 unfold eo at hl
 cases hx<;>(try simp only []at hl)<;>try (cases hl;done)
 rename_i a a' har
 unfold Instr.loadAt
 simp only [Instr.sureAddr,Sem.run_bind,Sem.run_pure,Result.andThen_ok]
 unfold loadVar
 cases ha:E.agg t with
 |none=>simp [ha]at hl
 | some b=>
   simp only [Sem.run_bind,qH ok ha,Result.andThen_ok]
   cases b with
   | true=>
     simp only [ha]at hl
     cases hs:E.sz t with
     |none=>simp [hs]at hl
     | some n=>
       simp only [hs]at hl
       cases hld:h.load a.block a.off n with
       |none=>simp [hld]at hl
       | some l=>
         simp only [hld]at hl
         cases hl
         obtain⟨h1,l',h2,h3⟩:=rI hh har hld
         have:=run_loadCells_list (P:=P) w a' l' h3
         have hn:l'.length=n:=by rw [<-h2.1];exact h1
         rw [hn]at this
         exact⟨.agg l'.toArray,by simp [dI ok hs,this],.agg h2.1 h2.2⟩
   | false=>
     simp only [ha]at hl
     cases hld:h.load a.block a.off 1 with
     |none=>simp [hld]at hl
     | some l=>
       simp only [hld]at hl
       obtain⟨h1,l',h2,h3⟩:=rI hh har hld
       match l,h1 with
       | [u],_=>
         simp only []at hl
         cases hl
         obtain⟨u',r,rfl,g1,g2⟩:=h2.cons_left
         have:=h3 0 u' (by simp)
         rw [show a'.add 0=a' by simp [Addr.add]]at this
         exact⟨u',by simp [this],g1⟩
theorem zx{mu:Mu}{h h':Hp}{w:World}(hh:aJ mu h w){t:TypeId}{x x' v v':Value}(hl:ie E h t x v=some h')(hx:ao mu x x')(hv:ao mu v v'):
 ∃w',(Instr.storeAt t x' v').run P w=.ok () w'/\aJ mu h' w'/\Ext mu h w mu h' w':=by
 unfold ie at hl
 cases hx<;>(try simp only []at hl)<;>try (cases hl;done)
 rename_i a a' har
 cases hs:E.sz t with
 |none=>simp [hs]at hl
 | some n=>
   simp only [hs]at hl
   have hne: ∀y,v≠ .chan y:=by intro y e;subst e;simp at hl
   have hl':(bif Nat.beq (an v).length n then h.store a.block a.off (an v)else none)=some h':=by
    cases v<;>first|exact hl|exact absurd rfl (hne _)
   rw [cv]at hl'
   by_cases hc:(an v).length=n
   . simp only [hc,decide_true,cond_true]at hl'
     have hvc:=hv.cells hne
     obtain⟨w',g1,g2,g3⟩:=p4 (P:=P) hh har hl' hvc
     refine⟨w',?_,g2,g3⟩
     have hsz:v'.cells.size=n:=by rw [<-hc];exact hvc.1.symm
     simp [Instr.storeAt,Instr.sureAddr,storeVar,dI ok hs,hsz,g1]
   . simp [hc]at hl'

omit ok in
theorem qu {mu:Mu} {kt:TypeId} {k k':Value} (hf:aW E kt k=true) (hk:ao mu k k'):k'=k/\qI k=true/\ ∃kd,E.und kt=some kd:=by
 unfold aW at hf
 cases hku:E.und kt with
 |none=>simp [hku]at hf
 | some kd=>
   cases ha:fV kd with
   | true=>
     cases kd<;>simp only [fV]at ha<;>try (cases ha;done)
     have hok:=fits_ok (E:=E) (kt:=kt) (k:=k) (by unfold aW;exact hf)
     obtain⟨cs,kd,rfl,_,_,_,_,hv⟩:=kp hku (by unfold aW;exact hf)
     refine⟨?_,hok,_,rfl⟩
     cases hk with
     | @agg _ x' h1 h2=>
       have:cs.toList=x'.toList:=by
        refine List.ext_getElem h1 fun i hi hi'=>?_
        obtain⟨x,hx⟩:=hv _ (zX hi)
        have:=h2 i _ _ (zO hi) (zO hi')
        rw [hx]at this⊢
        generalize x'.toList[i]=u at this
        cases this;rfl
       cases cs;cases x';simp at this;simp [this]
   | false=>
     simp only [hku]at hf
     cases kd<;>simp only []at hf<;>(try (cases hf;done))<;>(try (cases ha;done))<;>(cases hk<;>simp only []at hf<;>(try (cases hf;done))<;>exact⟨rfl,rfl,_,rfl⟩)

theorem xS {mu:Mu} {h:Hp} {w:World} (hh:aJ mu h w) {t:TypeId} {m m' k k' v:Value} {q:Bool} (hl:dq E h t m k q=some v) (hm:ao mu m m') (hk:ao mu k k'):
 ∃v',(Instr.lookup t m' k' q).run P w=.ok v' w/\ao mu v v':=by
 unfold dq at hl
 cases hu:E.und t with
 |none=>simp [hu]at hl
 | some d=>
   simp only [hu]at hl
   cases d<;>simp only []at hl<;>try (cases hl;done)
   rename_i kt el
   cases hf:aW E kt k with
   |false=>simp [hf]at hl
   | true=>
     simp only [hf,cond_true]at hl
     have hkk:k'=k:=(qu (E:=E) hf hk).1
     subst hkk
     have two: ∀{z y:Value},ao mu z y-> ∀b,ao mu (bif q then .tuple #[z,.bool b]else z) (if q then .tuple #[y,.bool b]else y):=by
      intro z y hz b
      cases q with
      |false=>exact hz
      | true=>
        have:VL mu [z,.bool b] [y,.bool b]:=LR.cons hz (LR.cons (.bool b) LR.nil)
        exact .tuple this.1 this.2
     obtain⟨kd,hku⟩: ∃kd,E.und kt=some kd:=by
      unfold aW at hf
      cases hku:E.und kt with
      |none=>simp [hku]at hf
      |some kd=>exact⟨kd,rfl⟩
     have fin0:(match E.zeroV el with|none=>none|some z=>some (bif q then .tuple #[z,.bool false]else z))=some v->
      ∃z,(zeroValue el).run P w=.ok z w/\ao mu v (if q then .tuple #[z,.bool false]else z):=by
      intro hz
      cases hz0:E.zeroV el with
      |none=>simp [hz0]at hz
      | some z=>
        simp only [hz0]at hz
        cases hz
        obtain⟨z1,z2⟩:=oh ok hz0 w mu
        exact⟨z,z1,two z2 false⟩
     unfold Instr.lookup
     simp only [Sem.run_bind,aR ok hu,Result.andThen_ok]
     cases hm<;>(try simp only []at hl)<;>try (cases hl;done)
     . obtain⟨z,g1,g2⟩:=fin0 hl
       refine⟨_,?_,g2⟩
       simp [iv ok hf,Instr.findKey,aR ok hku,Instr.findNow,g1]
     . rename_i b c hp
       cases hg:h.get b with
       |none=>simp [hg]at hl
       | some x=>
         simp only [hg]at hl
         cases x<;>simp only []at hl<;>try (cases hl;done)
         rename_i es clock
         obtain⟨top,es',h1,h2,h3⟩:=sK hh hp hg
         cases hfd:cd k' es with
         |none=>simp [hfd]at hl
         | some r=>
           cases r with
           | none=>
             simp only [hfd]at hl
             obtain⟨z,g1,g2⟩:=fin0 hl
             refine⟨_,?_,g2⟩
             simp [iv ok hf,iJ h2,kP ok hku hf h3 hfd,g1]
           | some p=>
             obtain⟨u,n⟩:=p
             simp only [hfd]at hl
             cases hl
             obtain⟨j,e',f1,f2,f3,_⟩:=kM ok hku hf h3 hfd w
             refine⟨_,?_,two f3 true⟩
             simp [iv ok hf,iJ h2,f2]

omit ok in
theorem pW{mu:Mu}{h:Hp}{w:World}(hh:aJ mu h w){t:TypeId}{m m' k k':Value}{r clock:Nat}{es:List (Value×Value×Nat)}{el:TypeId}(hl:jJ E h t m k=some (r,es,clock,el))
 (hm:ao mu m m') (hk:ao mu k k'): ∃kt kd c top es',E.und t=some (.map kt el)/\E.und kt=some kd/\aW E kt k=true/\k'=k/\qI k=true/\m'=.map (some c)/\h.get r=some (.map es clock)/\
  mu r=.blk c 0 top/\w.heap[c]? =some (.map es' clock)/\kj mu es es'.toList:=by
 unfold jJ at hl
 cases hu:E.und t with
 |none=>simp [hu]at hl
 | some d=>
   simp only [hu]at hl
   cases d<;>simp only []at hl<;>try (cases hl;done)
   rename_i kt el2
   cases hf:aW E kt k with
   |false=>simp [hf]at hl
   | true=>
     simp only [hf,cond_true]at hl
     obtain⟨h1,h2,kd,h3⟩:=qu (E:=E) hf hk
     cases hm<;>(try simp only []at hl)<;>try (cases hl;done)
     rename_i b c hp
     cases hg:h.get b with
     |none=>simp [hg]at hl
     | some x=>
       simp only [hg]at hl
       cases x<;>simp only []at hl<;>try (cases hl;done)
       cases hl
       obtain⟨top,es',g1,g2,g3⟩:=sK hh hp hg
       exact⟨kt,kd,c,top,es',rfl,h3,hf,h1,h2,rfl,hg,g1,g2,g3⟩

theorem sk {mu:Mu} {h h':Hp} {w:World} (hh:aJ mu h w) {t:TypeId} {m m' k k' v v':Value} (hl:jq E h t m k v=some h') (hm:ao mu m m') (hk:ao mu k k') (hv:ao mu v v'):
 ∃w',(Instr.mapUpdate t m' k' v').run P w=.ok () w'/\aJ mu h' w'/\Ext mu h w mu h' w':=by
 unfold jq at hl
 cases ha:jJ E h t m k with
 |none=>simp [ha]at hl
 | some q=>
   obtain⟨r,es,clock,el⟩:=q
   simp only [ha]at hl
   obtain⟨kt,kd,c,top,es',e1,e2,e3,rfl,e5,rfl,e7,e8,e9,e10⟩:=pW hh ha hm hk
   unfold Instr.mapUpdate
   simp only [Sem.run_bind,aR ok e1,Result.andThen_ok,iJ e9,iv ok e3]
   cases hfd:cd k' es with
   |none=>simp [hfd]at hl
   | some p=>
     cases p with
     | none=>
       simp only [hfd]at hl
       cases hl
       have hfn:=kP ok e2 e3 e10 hfd w
       obtain⟨g1,g2,g3⟩:=lC (P:=P) hh e7 e8 e9 (es2:=es++[(k',v,clock)]) (es2':=es'.push {key:=k',val:=v',born:=clock}) (clock2:=clock+1) (by
        simp only [Array.toList_push]
        exact LR.append e10 (LR.cons ⟨rfl,e5,hv,rfl⟩ LR.nil))
       exact⟨_,by simp [hfn,g1],g2,g3⟩
     | some u=>
       obtain⟨u,n⟩:=u
       simp only [hfd]at hl
       cases hl
       obtain⟨j,e',f1,f2,f3,f4,f5,f6,f7⟩:=kM ok e2 e3 e10 hfd w
       have hj:es'[j]? =some e':=by rw [<-zM];exact f1
       have hst:(Instr.keyThatStays e'.key k').run P w=.ok k' w:=by
        simp [Instr.keyThatStays,(show Instr.sameBits 10000 e'.key k'=true from og (sZ true f5) 9999)]
       obtain⟨g1,g2,g3⟩:=lC (P:=P) hh e7 e8 e9 (es2:=j9 k' v es) (es2':=es'.modify j fun e=>{e with key:=k',val:=v'}) (clock2:=clock) (by
        have:(es'.modify j fun e=>{e with key:=k',val:=v'}).toList=es'.toList.set j {e' with key:=k',val:=v'}:=by
         rw [Xb]
         exact pu f1 _
        rw [this];exact f6 v v' hv)
       refine⟨_,?_,g2,g3⟩
       simp [f2,hj,hst,g1]
end
end Go.Ab

namespace Go.Ab
section
variable{E:Env}{P:Program}(ok:EOk E P)
include ok

theorem zq {mu:Mu} {h h':Hp} {w:World} (hh:aJ mu h w) {t ty:TypeId} {ts:Array TypeId} {xs:Array Value} {m m' k k':Value} (ht:ts[0]? =some t) (hx0:xs[0]? =some m') (hx1:xs[1]? =some k')
 (hl:kH E h t m k=some h') (hm:ao mu m m') (hk:ao mu k k'):
 ∃w',(Builtin.delete_ ts ty xs).run P w=.ok (.tuple #[]) w'/\aJ mu h' w'/\Ext mu h w mu h' w':=by
 unfold kH at hl
 cases ha:jJ E h t m k with
 |none=>simp [ha]at hl
 | some q=>
   obtain⟨r,es,clock,el⟩:=q
   simp only [ha]at hl
   obtain⟨kt,kd,c,top,es',e1,e2,e3,rfl,e5,rfl,e7,e8,e9,e10⟩:=pW hh ha hm hk
   unfold Builtin.delete_
   simp only [ht,hx0,hx1,Sem.run_bind,aR ok e1,Result.andThen_ok,iJ e9,iv ok e3]
   cases hfd:cd k' es with
   |none=>simp [hfd]at hl
   | some p=>
     simp only [hfd]at hl
     cases hl
     cases p with
     | none=>
       have hfn:=kP ok e2 e3 e10 hfd w
       have hdel:jr k' es=es:=by
        have : ∀l:List (Value×Value×Nat),cd k' l=some none->jr k' l=l:=by
         intro l
         induction l with
         |nil=>intro _;rfl
         | cons x l ih=>
           obtain⟨a,b,n⟩:=x
           intro hx
           simp only [cd]at hx
           simp only [jr]
           cases hq:cq k' a with
           |none=>simp [hq]at hx
           | some b=>cases b with
             |true=>simp [hq]at hx
             |false=>simp only [hq]at hx⊢;rw [ih hx]
        exact this es hfd
       obtain⟨g1,g2,g3⟩:=lC (P:=P) hh e7 e8 e9 (es2:=jr k' es) (es2':=es') (clock2:=clock) (by rw [hdel];exact e10)
       exact⟨_,by simp [hfn,g1],g2,g3⟩
     | some u=>
       obtain⟨u,n⟩:=u
       obtain⟨j,e',f1,f2,f3,f4,f5,f6,f7⟩:=kM ok e2 e3 e10 hfd w
       obtain⟨g1,g2,g3⟩:=lC (P:=P) hh e7 e8 e9 (es2:=jr k' es) (es2':=es'.eraseIdxIfInBounds j) (clock2:=clock) (by
        have:(es'.eraseIdxIfInBounds j).toList=es'.toList.eraseIdx j:=by
         unfold Array.eraseIdxIfInBounds
         have hj:j<es'.size:=by have:=(List.getElem?_eq_some_iff.1 f1).1;simpa using this
         rw [dif_pos hj];simp
        rw [this];exact f7)
       exact⟨_,by simp [f2,g1],g2,g3⟩

theorem zG {mu:Mu} {h h':Hp} {w:World} (hh:aJ mu h w) {t:TypeId} {m m' k k' v:Value} (hl:iR E h t m k=some (h',v)) (hm:ao mu m m') (hk:ao mu k k'):
 ∃v' w',(Instr.mapEntry t m' k').run P w=.ok v' w'/\aJ mu h' w'/\Ext mu h w mu h' w'/\ao mu v v':=by
 have two: ∀{z y:Value},ao mu z y-> ∀n:Nat,ao mu (.tuple #[z,.int .i64 (.ofNat n)]) (.tuple #[y,goInt (n:Int)]):=by
  intro z y hz n
  have:VL mu [z,.int .i64 (.ofNat n)] [y,goInt (n:Int)]:=LR.cons hz (LR.cons (.int _ _) LR.nil)
  exact .tuple this.1 this.2
 unfold iR at hl
 cases ha:jJ E h t m k with
 |none=>simp [ha]at hl
 | some q =>
   obtain⟨r,es,clock,el⟩:=q
   simp only [ha]at hl
   obtain⟨kt,kd,c,top,es',e1,e2,e3,rfl,e5,rfl,e7,e8,e9,e10⟩:=pW hh ha hm hk
   unfold Instr.mapEntry
   simp only [Sem.run_bind,aR ok e1,Result.andThen_ok,iJ e9,iv ok e3]
   cases hfd:cd k' es with
   |none=>simp [hfd]at hl
   | some p=>
     cases p with
     | none=>
       simp only [hfd]at hl
       cases hz:E.zeroV el with
       |none=>simp [hz]at hl
       | some z=>
         simp only [hz]at hl
         cases hl
         obtain⟨z1,z2⟩:=oh ok hz w mu
         have hfn:=kP ok e2 e3 e10 hfd w
         obtain⟨g1,g2,g3⟩:=lC (P:=P) hh e7 e8 e9 (es2:=es++[(k',z,clock)]) (es2':=es'.push {key:=k',val:=z,born:=clock}) (clock2:=clock+1) (by
          simp only [Array.toList_push]
          exact LR.append e10 (LR.cons ⟨rfl,e5,z2,rfl⟩ LR.nil))
         exact⟨_,_,by simp [hfn,z1,g1],g2,g3,two z2 clock⟩
     | some u=>
       obtain⟨u,n⟩:=u
       simp only [hfd]at hl
       cases hl
       obtain⟨j,e',f1,f2,f3,f4,f5,f6,f7⟩:=kM ok e2 e3 e10 hfd w
       have hj:es'[j]? =some e':=by rw [<-zM];exact f1
       have hst:(Instr.keyThatStays e'.key k').run P w=.ok k' w:=by
        simp [Instr.keyThatStays,(show Instr.sameBits 10000 e'.key k'=true from og (sZ true f5) 9999)]
       obtain⟨g1,g2,g3⟩:=lC (P:=P) hh e7 e8 e9 (es2:=j9 k' u es) (es2':=es'.modify j fun e=>{e with key:=k'}) (clock2:=clock) (by
        have:(es'.modify j fun e=>{e with key:=k'}).toList=es'.toList.set j {e' with key:=k'}:=by
         rw [Xb];exact pu f1 _
        rw [this];exact f6 u e'.val f3)
       refine⟨_,_,by simp [f2,hj,hst,g1];rfl,g2,g3,?_⟩
       rw [f4];exact two f3 n

omit ok in
theorem vC {mu:Mu} {h h':Hp} {w:World} (hh:aJ mu h w) {t:TypeId} {m m' s s' v v':Value} (hl:jW h m s v=some h') (hm:ao mu m m') (hs:ao mu s s') (hv:ao mu v v'):
 ∃w',(Instr.entryStore t m' s' v').run P w=.ok () w'/\aJ mu h' w'/\Ext mu h w mu h' w':=by
 unfold jW at hl
 cases hm<;>(try simp only []at hl)<;>try (cases hl;done)
 rename_i b c hp
 cases hg:h.get b with
 |none=>simp [hg]at hl
 | some x=>
   simp only [hg]at hl
   cases x<;>(try simp only []at hl)<;>try (cases hl;done)
   rename_i es clock
   obtain⟨top,es',e8,e9,e10⟩:=sK hh hp hg
   cases hs<;>(try simp only []at hl)<;>try (cases hl;done)
   rename_i k i
   cases hi:fU i with
   |none=>simp [hi]at hl
   | some n=>
     have:=nj hi
     subst this
     simp only [hi]at hl
     cases hst:ic n v es with
     |none=>simp [hst]at hl
     | some es2=>
       simp only [hst]at hl
       cases hl
       obtain⟨j,e',f1,f2,f3⟩:=zn hv e10 hst
       obtain⟨g1,g2,g3⟩:=lC (P:=P) hh hg e8 e9 (es2:=es2) (es2':=es'.modify j fun e=>{e with val:=v'}) (clock2:=clock) (by
        have:(es'.modify j fun e=>{e with val:=v'}).toList=es'.toList.set j {e' with val:=v'}:=by
         rw [Xb];exact pu f2 _
        rw [this];exact f3)
       have hfi:es'.findIdx? (fun e=>(e.born:Int)==(n:Int))=some j:=by obtain⟨l⟩:=es';simpa using f1
       exact⟨_,by simp [Instr.entryStore,iJ e9,asInt,asIntOf,hfi,g1],g2,g3⟩

omit ok in
theorem jN(zs:List Value)(n:Nat):(aY zs n).length=n*zs.length:=by
 induction n with
 |zero=>simp [aY]
 |succ n ih=>simp [aY,ih,Nat.succ_mul];omega
omit ok in
theorem vZ(zs:List Value)(n i:Nat)(h:i<n*zs.length):(aY zs n)[i]? =zs[i%zs.length]? :=by
 induction n generalizing i with
 |zero=>simp at h
 | succ n ih=>
   simp only [aY]
   by_cases hi:i<zs.length
   . rw [zN hi,Nat.mod_eq_of_lt hi]
   . rw [zU (by omega),ih _ (by rw [Xd,Nat.one_mul]at h;omega)]
     rw [Nat.mod_eq_sub_mod (a:=i) (by omega)]
omit ok in
theorem ug{mu:Mu}{z:Value}{zs:List Value}(h1:z.cells.toList=zs)(h2:zs.all cg=true)(c:Nat):
 VL mu (aY zs c) ((Xe (c*zs.length)).map (z.cells[· %z.cells.size]!)).toList:=by
 have hsz:z.cells.size=zs.length:=by rw [<-h1];rfl
 refine⟨by simp [jN],fun i v v' hv hv'=>?_⟩
 have hi:i<c*zs.length:=by
  have:=(List.getElem?_eq_some_iff.1 hv).1
  rwa [jN]at this
 rw [vZ _ _ _ hi]at hv
 have hpos:0<zs.length:=by
  rcases Nat.eq_zero_or_pos zs.length with h0|h0
  . rw [h0]at hi;simp at hi
  . exact h0
 have hm:i%zs.length<zs.length:=Nat.mod_lt _ hpos
 have e:v'=z.cells[i%zs.length]! :=by
  simp only [zR,List.getElem?_map,Array.toList_range]at hv'
  rw [List.getElem?_range hi]at hv'
  simp at hv'
  rw [<-hv',hsz]
 have e2:z.cells[i%zs.length]! =v:=by
  rw [getElem!_pos z.cells _ (by omega)]
  have:z.cells.toList[i%zs.length]? =some v:=by rw [h1];exact hv
  rw [List.getElem?_eq_some_iff]at this
  obtain⟨_,q⟩:=this
  rw [<-q];simp
 rw [e,e2]
 simp only [zP]at h2
 exact ao.const mu (h2 v (Xi hv))

omit ok in
theorem xm{mu:Mu}{v v':Value}{n:Nat}(h:natV v=some n)(hv:ao mu v v'): ∃k,v'=.int k (n:Int):=by
 unfold natV at h
 cases hv<;>(try simp only []at h)<;>try (cases h;done)
 rename_i k i
 exact⟨k,by rw [nj h]⟩
omit ok in
theorem wrap_small{n:Nat}(h:n<=70368744177664):IntKind.i64.wrap (n:Int)=n:=by
 rw [<-gY]
 show(bif Nat.blt n 9223372036854775808 then _ else _)=_
 rw [gW]
 have:n<9223372036854775808:=by omega
 simp [this]
omit ok in
theorem gm(w:World)(o:Obj):WNew w {w with heap:=w.heap.push o} o:=⟨rfl,rfl,rfl,rfl⟩
omit ok in
theorem uP(mu:Mu)(b c top n cap cap' k:Nat)(h:n<=cap)(hc:cap<=cap')(hk:cap'*k<=top):ao (upd mu b (.blk c 0 top)) (.slice (some ⟨b,0,some k⟩) n cap) (.slice (some ⟨c,0,none⟩) n cap'):=by
 refine .slice h ?_
 unfold dw
 simp only [upd_same]
 exact⟨hc,trivial,trivial,by simpa using hk,by simp⟩
omit ok in
theorem mN(mu:Mu)(b c top n cap:Nat)(h:n<=cap):ao (upd mu b (.blk c 0 top)) (.slice (some ⟨b,0,none⟩) n cap) (.slice (some ⟨c,0,none⟩) n cap):=by
 refine .slice h ?_
 unfold dw
 simp only [upd_same]
 simp

theorem tU {mu : Mu} {h h':Hp} {w:World} (hh:aJ mu h w) {t:TypeId} {l l' c c' v:Value} (hl:iI E h t l c=some (h',v)) (hr:ao mu l l') (hc:ao mu c c'):
 ∃v' mu' w',(Instr.makeSlice t l' c').run P w=.ok v' w'/\aJ mu' h' w'/\Ext mu h w mu' h' w'/\ao mu' v v':=by
 unfold iI at hl
 cases hu:E.und t with
 |none=>simp [hu]at hl
 | some d=>
   simp only [hu]at hl
   cases d<;>(try simp only []at hl)<;>try (cases hl;done)
   rename_i e
   cases hn:natV l with
   |none=>simp [hn]at hl
   | some n =>
     cases hm:natV c with
     |none=>simp [hn,hm]at hl
     | some m=>
       obtain⟨k1,rfl⟩:=xm hn hr
       obtain⟨k2,rfl⟩:=xm hm hc
       simp only [hn,hm]at hl
       cases hi:E.ty e with
       |none=>simp [hi]at hl
       | some i =>
         simp only [hi,dB]at hl
         by_cases hcond:n<=m/\m*(i.bytes+1)<=70368744177664
         . obtain ⟨h1,h2⟩:=hcond
           simp only [h1,h2,decide_true,zW,cond_true]at hl
           cases hz:E.zero e with
           |none=>simp [hz]at hl
           | some zs=>
             simp only [hz,cv]at hl
             by_cases hzl:zs.length=i.size
             . simp only [hzl,decide_true,cond_true]at hl
               obtain⟨z,z1,z2,z3,z4⟩:=lh ok hz w
               have hmb:m<=70368744177664:=by
                have:m*1<=m*(i.bytes+1):=Nat.mul_le_mul_left m (by omega)
                omega
               have hnb:n<=70368744177664:=by omega
               have hby: ¬((i.bytes:Int)*(m:Int)>2 ^48):=by
                have:i.bytes*m<=m*(i.bytes+1):=by rw [Nat.mul_comm,Nat.mul_add];omega
                have:((i.bytes*m:Nat):Int)<=70368744177664:=by omega
                rw [Int.natCast_mul]at this
                rw [show(2:Int) ^48=281474976710656 from rfl];omega
               have hsize:E.sz e=some i.size:=by unfold Env.sz;rw [hi]
               have hrel:=ug (mu:=mu) z2 z4 m
               obtain⟨cs,hcs⟩: ∃cs,cs=(Xe (m*zs.length)).map (z.cells[· %z.cells.size]!):=⟨_,rfl⟩
               rw [<-hcs]at hrel
               have hrun:(Instr.makeSlice t (.int k1 n) (.int k2 m)).run P w=.ok (.slice (some ⟨w.heap.size,0,none⟩) n m) {w with heap:=w.heap.push (.cells cs e)}:=by
                unfold Instr.makeSlice
                simp only [Sem.run_bind,aR ok hu,Result.andThen_ok,asInt,asIntOf,Sem.run_pure,lK ok hi,wrap_small hmb,wrap_small hnb]
                have c1:(decide ((m:Int)<0)||decide ((i.bytes:Int)*(m:Int)>2 ^48))=false:=by
                 rw [decide_eq_false hby,decide_eq_false (show¬((m:Int)<0) by omega)];rfl
                have c2:((decide ((m:Int)<0)||decide ((i.bytes:Int)*(m:Int)>2 ^48))||decide ((n:Int)<0)||decide ((n:Int)>(m:Int)))=false:=by
                 rw [c1];simp;omega
                rw [if_neg (by rw [c2];simp)]
                simp only [Sem.run_bind,run_askRoom,Result.andThen_ok,dI ok hsize,Int.toNat_natCast]
                by_cases hz0:m*i.size=0
                . have:cs=#[]:=by rw [hcs,hzl,hz0];simp
                  rw [if_pos hz0]
                  simp [newRow,hz0,this]
                  rw [show Array.map (fun _=>(default:Value)) (Xe 0)=#[] by simp]
                . rw [if_neg hz0]
                  simp [z1,newRow,hcs,hzl]
               rw [hrun]
               have hsz2:cs.size=m*i.size:=by rw [hcs];simp [hzl]
               match zs,hl,hrel,hzl with
               | [],hl,hrel,hzl=>
                 cases hl
                 have hlen:(aY [] m).length=m*i.size:=by rw [jN,<-hzl]
                 obtain⟨g1,g2⟩:=mZ (w':={w with heap:=w.heap.push (.cells cs e)}) hh (l:=aY [] m) (l':=cs) (el:=e) hrel (gm w _) (t:=Tr.ofList (aY [] m)) (Tr.sized_ofList _) (Tr.get_ofList _)
                 rw [hlen]at g1 g2
                 exact⟨_,_,_,rfl,g1,g2,mN mu h.n w.heap.size cs.size n m h1⟩
               | [z0],hl,hrel,hzl=>
                 cases hl
                 have hlen:(aY [z0] m).length=m:=by rw [jN];simp
                 obtain⟨g1,g2⟩:=mZ (w':={w with heap:=w.heap.push (.cells cs e)}) hh (l:=aY [z0] m) (l':=cs) (el:=e) hrel (gm w _) (t:=Tr.blank z0 m m) (by rw [hlen];exact Tr.sized_blank z0 m m (zQ _)) (by
                  intro j
                  rw [Tr.get_blank z0 m m (zQ _)]
                  by_cases hj:j<m
                  . rw [if_pos hj,vZ _ _ _ (by simpa using hj)];simp [Nat.mod_one]
                  . rw [if_neg hj,List.getElem?_eq_none (by omega)])
                 rw [hlen]at g1 g2
                 exact⟨_,_,_,rfl,g1,g2,mN mu h.n w.heap.size cs.size n m h1⟩
               | z0::z1::zr,hl,hrel,hzl=>
                 cases hl
                 have hlen:(aY (z0::z1::zr) m).length=m*i.size:=by rw [jN,<-hzl]
                 obtain⟨g1,g2⟩:=mZ (w':={w with heap:=w.heap.push (.cells cs e)}) hh (l:=aY (z0::z1::zr) m) (l':=cs) (el:=e) hrel (gm w _) (t:=Tr.ofList (aY (z0::z1::zr) m)) (Tr.sized_ofList _) (Tr.get_ofList _)
                 rw [hlen]at g1 g2
                 exact⟨_,_,_,rfl,g1,g2,mN mu h.n w.heap.size cs.size n m h1⟩
             . simp [hzl]at hl
         . have:(decide (n<=m)&&decide (m*(i.bytes+1)<=70368744177664))=false:=by
            rw [<-zT];simpa using hcond
           rw [this]at hl;simp at hl

theorem tA {mu : Mu} {h h':Hp} {w:World} (hh:aJ mu h w) {t:TypeId} {n:Nat} {parts parts':List (Nat×Value)} {v:Value} (hl:jd E h t n parts=some (h',v)) (hq:PL mu parts parts'):
 ∃v' mu' w',(Instr.buildSlice t n parts'.toArray).run P w=.ok v' w'/\aJ mu' h' w'/\Ext mu h w mu' h' w'/\ao mu' v v':=by
 unfold jd at hl
 cases hu:E.und t with
 |none=>simp [hu]at hl
 | some d=>
   simp only [hu]at hl
   cases d<;>(try simp only []at hl)<;>try (cases hl;done)
   rename_i e
   cases hs:E.sz e with
   |none=>simp [hs]at hl
   | some k=>
     simp only [hs,dB]at hl
     by_cases hb:n*k<=16777216
     . simp only [hb,decide_true,cond_true]at hl
       cases hz:E.zero e with
       |none=>simp [hz]at hl
       | some zs =>
         simp only [hz,cv]at hl
         by_cases hzl:zs.length=k
         . simp only [hzl,decide_true,cond_true]at hl
           cases hf:im (fun i=>some (i*k,k)) (aY zs n) parts with
           |none=>simp [hf]at hl
           | some cs=>
             simp only [hf]at hl
             cases hl
             obtain⟨z,z1,z2,z3,z4⟩:=lh ok hz w
             have hrel:=ug (mu:=mu) z2 z4 n
             obtain⟨r',e1,e2⟩:=pV (place':=fun i=>some (i*k,k)) (fun i r hr=>hr) hf hrel hq
             have hrun:(Instr.buildSlice t n parts'.toArray).run P w=.ok (.slice (some ⟨w.heap.size,0,none⟩) n n) {w with heap:=w.heap.push (.cells r' e)}:=by
              unfold Instr.buildSlice
              simp only [Sem.run_bind,aR ok hu,Result.andThen_ok,dI ok hs]
              rw [if_neg (by omega)]
              by_cases hz0:n*k=0
              . have e3: ∀q:Array Value,(Xe (n*k)).map (q[· %q.size]!)=(Xe (n*zs.length)).map (z.cells[· %z.cells.size]!):=by
                 intro q;rw [hzl,hz0];simp
                rw [if_pos hz0]
                simp only [Sem.run_bind,Sem.run_pure,Result.andThen_ok]
                rw [e3,e1]
                simp [newRow]
              . rw [if_neg hz0]
                simp only [Sem.run_bind,z1,Result.andThen_ok,Sem.run_pure]
                rw [show n*k=n*zs.length by rw [hzl],e1]
                simp [newRow]
             rw [hrun]
             obtain⟨g1,g2⟩:=mZ (w':={w with heap:=w.heap.push (.cells r' e)}) hh (l:=cs) (l':=r') (el:=e) e2 (gm w _) (t:=Tr.ofList cs) (Tr.sized_ofList _) (Tr.get_ofList _)
             exact⟨_,_,_,rfl,g1,g2,mN mu h.n w.heap.size r'.size n n (zQ _)⟩
         . simp [hzl]at hl
     . simp [hb]at hl
end
end Go.Ab

namespace Go.Ab
section
variable{E:Env}{P:Program}(ok:EOk E P)

theorem yn{tr:Tr Value}{sz off m:Nat}{new:List Value}{t2:Tr Value}{s2:Nat}(hs:tr.Sized sz)(h:iQ tr sz off m new=some (t2,s2)):
 off+m<=sz/\s2=m+new.length/\t2.Sized s2/\(∀i,i<m->t2.get i=tr.get (off+i))/\ ∀i,m<=i->t2.get i=new[i-m]? :=by
 unfold iQ at h
 rw [cv,cv]at h
 by_cases hc:off=0/\m=sz
 . obtain⟨rfl,rfl⟩:=hc
   simp only [decide_true,zW,cond_true]at h
   cases h
   refine⟨by omega,rfl,Tr.sized_pushAll _ hs,fun i hi=>?_,fun i hi=>?_⟩
   . rw [Tr.get_pushAll _ _ _ hs,if_pos hi,zZ]
   . rw [Tr.get_pushAll _ _ _ hs,if_neg (by omega)]
 . have:(decide (off=0)&&decide (m=sz))=false:=by
    rw [<-zT];simpa using hc
   rw [this,dB]at h
   simp only [cond_false]at h
   by_cases hle:off+m<=sz
   . simp only [hle,decide_true,cond_true]at h
     cases hsl:tr.slice off m with
     |none=>simp [hsl]at h
     | some old=>
       simp only [hsl]at h
       cases h
       obtain⟨h1,h2⟩:=Tr.slice_spec hsl
       refine⟨hle,by rw [List.length_append,h1],Tr.sized_ofList _,fun i hi=>?_,fun i hi=>?_⟩
       . rw [Tr.get_ofList,zN (by omega),h2 i hi]
       . rw [Tr.get_ofList,zU (by omega),h1]
   . simp [hle]at h

theorem pq{mu:Mu}{a a':Addr}{cap cap':Nat}(hs:dw mu a cap a' cap')(hc:cap≠0):dM mu a a':=by
 unfold dw at hs
 unfold dM
 cases hmu:mu a.block with
 |none=>rw [hmu]at hs;exact hs.elim
 |dead=>trivial
 | blk c base top=>
   rw [hmu]at hs
   cases hsp:a.spot with
   |none=>rw [hsp]at hs;exact hs.2
   | some q=>
     rw [hsp]at hs
     simp only []at hs⊢
     obtain⟨_,s2,s3,_,s5⟩:=hs
     have:a'.off=base+a.off:=by rcases s5 with s5|s5<;>omega
     cases a';simp at s2 s3 this;simp [s2,s3,this]

theorem jB {mu:Mu} {h:Hp} {w:World} (hh:aJ mu h w) {a a':Addr} {len cap cap' k:Nat} (hlc:len<=cap) (hs:dw mu a cap a' cap') {l:List Value} (hl:h.load a.block a.off (len*k)=some l):
 l.length=len*k/\ ∃l',VL mu l l'/\ ∀w2:World,w2.heap=w.heap->(Builtin.firstCells k len (.slice (some a') len cap')).run P w2=.ok l'.toArray w2:=by
 by_cases hc:cap=0
 . have :len=0:=by omega
   subst this
   have hl0:l.length=0:=by
    unfold Hp.load at hl
    cases hg:h.get a.block with
    |none=>simp [hg]at hl
    | some x=>
      simp only [hg]at hl
      cases x<;>(try simp only []at hl)<;>try (cases hl;done)
      rename_i t sz el md
      rw [dB]at hl
      by_cases hcc:a.off+0*k<=sz
      . simp only [hcc,decide_true,cond_true]at hl
        have:=(Tr.slice_spec hl).1;simpa using this
      . rw [decide_eq_false hcc]at hl;cases hl
   have:l=[]:=by cases l<;>simp_all
   subst this
   exact⟨by simp,[],LR.nil,fun w2 _=>by simp [Builtin.firstCells,loadCells,loadCellsFrom]⟩
 . have har:=pq hs hc
   obtain⟨h1,l',h2,h3⟩:=rI hh har hl
   refine⟨h1,l',h2,fun w2 he=>?_⟩
   have hcell: ∀(j:Nat) v',l'[j]? =some v'->w2.cell? (a'.add j)=some v':=by
    intro j v' hv;rw [<-h3 j v' hv];simp only [World.cell?,he]
   have:=run_loadCells_list (P:=P) w2 a' l' hcell
   rw [show l'.length=len*k by rw [<-h2.1];exact h1]at this
   simp [Builtin.firstCells,this]

theorem wY{mu:Mu}{h:Hp}{w:World}(hh:aJ mu h w){k n:Nat}{x x':Value}{new:List Value}(hl:aO h k x=some (n,new))(hx:ao mu x x'):
 new.length=n*k/\(∀w2:World,(Builtin.lenOf x').run P w2=.ok n w2)/\ ∃new',VL mu new new'/\ ∀w2:World,w2.heap=w.heap->(Builtin.firstCells k n x').run P w2=.ok new'.toArray w2:=by
 unfold aO at hl
 cases hx<;>(try simp only []at hl)<;>try (cases hl;done)
 . rename_i s
   rw [cv]at hl
   by_cases hk:k=1
   . subst hk
     simp only [decide_true,cond_true]at hl
     cases hl
     refine⟨by simp [aH],fun w2=>rfl,(aH s).map fun b=>.int .u8 (.ofNat b.toNat),LR.mapSame _ fun b=>.int _ _,fun w2 _=>?_⟩
     simp only [Builtin.firstCells,Sem.run_pure]
     congr 1
     apply Xm
     simp [aH]
   . simp [hk]at hl
 . cases hl
   exact⟨by simp,fun w2=>rfl,[],LR.nil,fun w2 _=>rfl⟩
 . rename_i a a' len cap cap' hlc hsr
   cases hld:h.load a.block a.off (len*k)with
   |none=>simp [hld]at hl
   | some l=>
     simp only [hld]at hl
     cases hl
     obtain⟨h1,l',h2,h3⟩:=jB (P:=P) hh hlc hsr hld
     exact⟨h1,fun w2=>rfl,l',h2,h3⟩

theorem hrel_move{mu:Mu}{h:Hp}{w w':World}(hh:aJ mu h w){b c base top base2:Nat}{o:Obj}{x:Blk}(hm:mu b=.blk c base top)
 (hro: ∀t sz el,h.get b≠some (.cells t sz el 0)) (hw:WSet w w' c o) (hb:kc (upd mu b .dead) x base2 top o):
 aJ (upd (upd mu b .dead) h.n (.blk c base2 top)) ((h.put b .dead).new x) w'/\Ext mu h w (upd (upd mu b .dead) h.n (.blk c base2 top)) ((h.put b .dead).new x) w':=by
 obtain⟨k1,e1⟩:=oe hh hm hro hw
 have hbl:=hh.lt b (by rw [hm];simp)
 have hn:(h.put b .dead).n=h.n:=rfl
 have hle:Le (upd mu b .dead) (upd (upd mu b .dead) h.n (.blk c base2 top)):=by
  intro b' hb';left;exact aK _ _ (by have:=k1.lt b' hb';rw [hn]at this;omega)
 have hgn:=(h.put b .dead).get_new x k1.sized
 have hfree: ∀b' base' top',upd mu b .dead b'≠ .blk c base' top':=by
  intro b' base' top' hm'
  have hbb:b'≠b:=by intro e;subst e;rw [upd_same]at hm';cases hm'
  rw [aK _ _ hbb]at hm'
  exact hbb (hh.inj b' b c _ _ _ _ hm' hm)
 refine⟨⟨Tr.sized_push x k1.sized,?_,?_,?_,?_⟩,?_⟩
 . intro b' c' base' top' hm'
   by_cases hbn:b'=h.n
   . subst hbn
     rw [upd_same]at hm'
     cases hm'
     exact⟨x,o,by rw [hgn,hn];simp,hw.at_,hb.mono hle⟩
   . rw [aK _ _ hbn]at hm'
     obtain⟨y,o',h1,h2,h3⟩:=k1.blk b' c' base' top' hm'
     exact⟨y,o',by rw [hgn,hn,if_neg hbn];exact h1,h2,h3.mono hle⟩
 . intro b' hm'
   by_cases hbn:b'=h.n
   . subst hbn;rw [upd_same]at hm';cases hm'
   . rw [aK _ _ hbn]at hm';rw [hgn,hn,if_neg hbn];exact k1.dead b' hm'
 . intro b1 b2 c' base1 top1 base2' top2 h1 h2
   by_cases n1:b1=h.n
   . by_cases n2:b2=h.n
     . rw [n1,n2]
     . subst n1;rw [upd_same]at h1;rw [aK _ _ n2]at h2;cases h1;exact absurd h2 (hfree _ _ _)
   . rw [aK _ _ n1]at h1
     by_cases n2:b2=h.n
     . subst n2;rw [upd_same]at h2;cases h2;exact absurd h1 (hfree _ _ _)
     . rw [aK _ _ n2]at h2;exact k1.inj b1 b2 c' _ _ _ _ h1 h2
 . intro b' hm'
   show b'<h.n+1
   by_cases hbn:b'=h.n
   . omega
   . rw [aK _ _ hbn]at hm';have:=k1.lt b' hm';rw [hn]at this;omega
 . refine⟨by show h.n<=h.n+1;omega,?_,?_,e1.lo,?_,e1.frame,?_,e1.wsize,e1.os,e1.tape,e1.output,fun b' h1 h2=>by
    have h2':b'<h.n+1:=h2
    have:b'=h.n:=by omega
    subst this;rw [upd_same];simp⟩
   . intro b' hb'
     rw [aK _ _ (by omega)];exact e1.old b' hb'
   . intro b' c' base' top' hb' hm'
     by_cases hbn:b'=h.n
     . subst hbn;rw [upd_same]at hm';cases hm'
       exact .inr ⟨b,base,top,hbl,hm,by rw [aK _ _ (by omega)];exact upd_same _ _ _⟩
     . rw [aK _ _ hbn]at hm'
       exact absurd (k1.lt b' (by rw [hm'];simp)) (by rw [hn];omega)
   . intro b' hb' hlo
     rw [hgn,hn,if_neg (by omega)];exact e1.same b' hb' hlo
   . intro b' c' base' top' t sz el hm' hg'
     obtain⟨g1,g2,g3⟩:=e1.ro b' c' base' top' t sz el hm' hg'
     have hb'l:=hh.lt b' (by rw [hm'];simp)
     exact⟨g1,by rw [hgn,hn,if_neg (by omega)];exact g2,by rw [aK _ _ (by omega)];exact g3⟩

theorem yD {n c:Nat} (h:c<n):Builtin.nextslicecap n c<=3*n:=by
 unfold Builtin.nextslicecap
 split
 . omega
 . split
   . omega
   . rename_i h1 h2
     have key: ∀(r c:Nat),c<=n+(n+768)/4->Builtin.growBy n r c<=n+(n+768)/4:=by
      intro r
      induction r with
      |zero=>intro c hc;exact hc
      | succ r ih=>
        intro c hc
        simp only [Builtin.growBy]
        split
        . exact hc
        . exact ih _ (by omega)
     have:=key 4 c (by omega)
     omega
end
end Go.Ab

namespace Go.Ab
theorem uY{w:World}{c:Nat}{cs:Array Value}{el:TypeId}{fz:Nat×Nat}(o:Nat)(vs:List Value)(h:w.heap[c]? =some (.cells cs el fz)):
 ∃cs2,WSet w (w.setCells c o vs) c (.cells cs2 el fz)/\cs2.toList=bM cs.toList o vs:=setCells_at c vs o w cs el fz h
section
variable{E:Env}{P:Program}(ok:EOk E P)
include ok

omit ok in
theorem uz{t:TypeId}(h:az E t=some false): ∃d,E.und t=some d/\(match d with| .int _=>true|_=>false)=false:=by
 unfold az at h
 cases hu:E.und t with
 |none=>simp [hu]at h
 | some d=>
   simp only [hu]at h
   exact⟨d,rfl,by cases d<;>simp at h<;>rfl⟩

theorem rJ{mu:Mu}{h:Hp}{w:World}(hh:aJ mu h w){e:TypeId}{i:TypeInfo}{zs:List Value}(hz:E.zero e=some zs)(hzl:zs.length=i.size)
 {len n cap':Nat} {s' x':Value} {old' new':List Value} (h1: ∀w2:World,w2.heap=w.heap->(Builtin.firstCells i.size len s').run P w2=.ok old'.toArray w2)
 (h2: ∀w2:World,w2.heap=w.heap->(Builtin.firstCells i.size n x').run P w2=.ok new'.toArray w2) (l1:old'.length=len*i.size) (l2:new'.length=n*i.size)
 {t2:Tr Value} {s2:Nat} (ht:t2.Sized s2) (hs2:s2=old'.length+new'.length) (hrel: ∀j v,t2.get j=some v-> ∃v',(old'++new')[j]? =some v'/\ao mu v v'):
 ∃ v' mu' w',((do
   let newCap<-choose (.appendCap (len+n) cap' e)
   askRoom (newCap*i.bytes)
   let old<-Builtin.firstCells i.size len s'
   let new<-Builtin.firstCells i.size n x'
   let rest:=Builtin.zeroCells (<-zeroValue e).cells (newCap-(len+n))
   pure (Value.slice (some (<-newRow e (old++new++rest))) (len+n) newCap):Sem Value)).run P w=.ok v' w'/\
   aJ mu' (h.new (.cells t2 s2 e 1)) w'/\Ext mu h w mu' (h.new (.cells t2 s2 e 1)) w'/\ao mu' (.slice (some ⟨h.n,0,some i.size⟩) (len+n) (len+n)) v':=by
 obtain⟨z,z1,z2,z3,z4⟩:=lh ok hz {w with drawn:=w.drawn+1}
 obtain⟨nc,hnc⟩: ∃nc,nc=(Question.appendCap (len+n) cap' e).cut (w.tape w.drawn (.appendCap (len+n) cap' e)):=⟨_,rfl⟩
 have hge:len+n<=nc:=by rw [hnc];simp only [Question.cut];omega
 have hzs:z.cells.size=i.size:=by rw [<-hzl,<-z2];rfl
 obtain⟨rest,hrest⟩: ∃rest,rest=Builtin.zeroCells z.cells (nc-(len+n)):=⟨_,rfl⟩
 have hrs:rest.size=(nc-(len+n))*i.size:=by rw [hrest];simp [Builtin.zeroCells,hzs]
 obtain⟨cs,hcs⟩: ∃cs,cs=old'.toArray++new'.toArray++rest:=⟨_,rfl⟩
 have hsz:cs.size=nc*i.size:=by
  rw [hcs];simp only [Array.size_append,List.size_toArray,l1,l2,hrs]
  rw [<-Xd,<-Xd];congr 1;omega
 have hfits:s2<=cs.size:=by
  rw [hs2,l1,l2,hsz,<-Xd];exact Xa _ hge
 have hd:aJ mu h {w with drawn:=w.drawn+1}:=qq hh rfl
 obtain⟨g1,g2⟩:=li (x:=.cells t2 s2 e 1) (base:=0) (top:=cs.size) (o:=.cells cs e) hd (gm {w with drawn:=w.drawn+1} (.cells cs e)) ⟨cs,e,(0,0),rfl,rfl,by omega,ht,by
  intro j v hv
  obtain⟨v',k1,k2⟩:=hrel j v hv
  refine⟨v',?_,k2⟩
  rw [zZ,<-zM,hcs]
  simp only [zV]
  have hj:j<(old'++new').length:=(List.getElem?_eq_some_iff.1 k1).1
  rw [zN hj];exact k1,by intro _ j _ hx;omega⟩
 refine⟨.slice (some ⟨w.heap.size,0,none⟩) (len+n) nc,_,_,?_,g1,(rB (w':={w with drawn:=w.drawn+1}) hh rfl rfl rfl rfl).trans g2,?_⟩
 . have hf:(Question.appendCap (len+n) cap' e).forced=false:=rfl
   simp only [Sem.run_bind,run_choose,hf,zS,if_false,Result.andThen_ok,run_askRoom,h1 {w with drawn:=w.drawn+1} rfl,h2 {w with drawn:=w.drawn+1} rfl,z1,<-hnc,<-hrest,newRow,run_newObj,Sem.run_pure,<-hcs]
 . exact uP mu h.n w.heap.size cs.size (len+n) (len+n) nc i.size (zQ _) hge (by rw [hsz];exact zQ _)

theorem tE{ts:Array TypeId}{ty t tx e:TypeId}{i:TypeInfo}{xs:Array Value}{x':Value}{base:Option Addr}{len cap' n:Nat}{w:World}(ht0:ts[0]? =some t)(ht1:ts[1]? =some tx)(hx0:xs[0]? =some (.slice base len cap'))(hx1:xs[1]? =some x')
 (hit:az E tx=some false) (hu:E.und t=some (.slice e)) (hi:E.ty e=some i) (hn:(Builtin.lenOf x').run P w=.ok n w) (h1:len+n<=cap'):
 (Builtin.append_ ts ty xs).run P w=((do
  let new<-Builtin.firstCells i.size n x'
  match base with
   |some a=>do storeCells (a.add (len*i.size)) new.toList;pure (Value.slice base (len+n) cap')
   |none=>pure (Value.slice base (len+n) cap'):Sem Value)).run P w:=by
 have hsz:E.sz e=some i.size:=by unfold Env.sz;rw [hi]
 obtain⟨dx,hdx,hm⟩:=uz hit
 unfold Builtin.append_
 simp only [ht0,ht1,hx0,hx1,Sem.run_bind,aR ok hu,Result.andThen_ok,dI ok hsz,aR ok hdx,Sem.run_pure]
 cases dx<;>first
  |(simp at hm;done)
  | (simp only [zS,if_false,Sem.run_bind,hn,Result.andThen_ok,Xc,if_true,if_pos h1]
     cases base<;>rfl)
theorem oE{ts:Array TypeId}{ty t tx e:TypeId}{i:TypeInfo}{xs:Array Value}{x':Value}{base:Option Addr}{len cap' n:Nat}{w:World}(ht0:ts[0]? =some t)(ht1:ts[1]? =some tx)(hx0:xs[0]? =some (.slice base len cap'))(hx1:xs[1]? =some x')
 (hit:az E tx=some false) (hu:E.und t=some (.slice e)) (hi:E.ty e=some i) (hn:(Builtin.lenOf x').run P w=.ok n w) (hb:0<i.bytes) (h1: ¬len+n<=cap') (h2: ¬Builtin.nextslicecap (len+n) cap'*i.bytes>2 ^48):
 (Builtin.append_ ts ty xs).run P w=((do
  let newCap<-choose (.appendCap (len+n) cap' e)
  askRoom (newCap*i.bytes)
  let old<-Builtin.firstCells i.size len (.slice base len cap')
  let new<-Builtin.firstCells i.size n x'
  let rest:=Builtin.zeroCells (<-zeroValue e).cells (newCap-(len+n))
  pure (Value.slice (some (<-newRow e (old++new++rest))) (len+n) newCap):Sem Value)).run P w:=by
 have hsz:E.sz e=some i.size:=by unfold Env.sz;rw [hi]
 obtain⟨dx,hdx,hm⟩:=uz hit
 have hc: ¬(((len+n:Nat):Int)>IntKind.i64.max/\(False\/i.bytes=0)):=by rintro⟨_,h|h⟩;exact h;omega
 unfold Builtin.append_
 simp only [ht0,ht1,hx0,hx1,Sem.run_bind,aR ok hu,Result.andThen_ok,dI ok hsz,aR ok hdx,Sem.run_pure]
 cases dx<;>first
  |(simp at hm;done)
  | (simp only [zS,if_false,Sem.run_bind,hn,Result.andThen_ok,Xc,if_true,if_neg h1,lK ok hi,if_neg hc,if_neg h2,run_choose,show(Question.appendCap (len+n) cap' e).forced=false from rfl]
     try rfl)
theorem yh {mu : Mu} {h h' : Hp} {w : World} (hh:aJ mu h w) {ts:Array TypeId} {ty:TypeId} {xs:Array Value} {s s' x x' v:Value} (hx0:xs[0]? =some s') (hx1:xs[1]? =some x')
 (hl:cL E h ts.toList s x=some (h',v)) (hs:ao mu s s') (hx:ao mu x x'):
 ∃v' mu' w',(Builtin.append_ ts ty xs).run P w=.ok v' w'/\aJ mu' h' w'/\Ext mu h w mu' h' w'/\ao mu' v v':=by
 unfold cL at hl
 cases hts:ts.toList with
 |nil=>simp [hts]at hl
 | cons t ts1 =>
   cases ts1 with
   |nil=>simp [hts]at hl
   | cons tx ts2 =>
     have ht0:ts[0]? =some t:=by rw [<-zM,hts];rfl
     have ht1:ts[1]? =some tx:=by rw [<-zM,hts];rfl
     simp only [hts]at hl
     cases hit:az E tx with
     |none=>simp [hit]at hl
     | some b =>
       cases b with
       |true=>simp [hit]at hl
       | false =>
         simp only [hit]at hl
         unfold iX at hl
         cases hu:E.und t with
         |none=>simp [hu]at hl
         | some d=>
           simp only [hu]at hl
           cases d<;>(try simp only []at hl)<;>try (cases hl;done)
           rename_i e
           cases hi:E.ty e with
           |none=>simp [hi]at hl
           | some i =>
             simp only [hi]at hl
             have hsl: ∃a len cap,s=.slice a len cap:=by
              cases s<;>simp at hl<;>exact⟨_,_,_,rfl⟩
             obtain⟨a,len,cap,rfl⟩:=hsl
             simp only []at hl
             cases hsrc:aO h i.size x with
             |none=>simp [hsrc]at hl
             | some q=>
               obtain⟨n,new⟩:=q
               simp only [hsrc]at hl
               obtain⟨l1,l2,new',l3,l4⟩:=wY (P:=P) hh hsrc hx
               unfold eJ at hl
               rw [dB,dB,gW]at hl
               have hsl': ∃a' cap',s'=.slice a' len cap'/\cap<=cap'/\len<=cap:=by
                cases hs with
                |nils=>exact⟨none,0,rfl,zQ _,zQ _⟩
                |slice h1 h2=>exact⟨some _,_,rfl,h2.caps,h1⟩
               obtain⟨a',cap',rfl,hcc,hlc⟩:=hsl'
               by_cases hfit:len+n<=cap
               . simp only [hfit,decide_true,cond_true]at hl
                 rw [tE ok ht0 ht1 hx0 hx1 hit hu hi (l2 w) (by omega)]
                 have hf:=l4 w rfl
                 cases hs with
                 | nils=>
                   simp only []at hl
                   cases hl
                   have hn0:n=0:=by omega
                   subst hn0
                   exact⟨.slice none 0 0,mu,w,by simp [hf],hh,Ext.refl mu h w hh,.nils⟩
                 | slice h1 h2=>
                   rename_i a a'
                   simp only []at hl
                   simp only [Sem.run_bind,hf,Result.andThen_ok]
                   cases new with
                   | nil=>
                     simp only []at hl
                     cases hl
                     rw [l3.nil_left]
                     exact⟨.slice (some a') (len+n) cap',mu,w,by simp [storeCells],hh,Ext.refl mu h w hh,.slice hfit h2⟩
                   | cons x0 xr=>
                     simp only []at hl
                     have hn0:n≠0:=by intro e;subst e;simp at l1
                     cases hst:h.store a.block (a.off+len*i.size) (x0::xr)with
                     |none=>simp [hst]at hl
                     | some h2'=>
                       simp only [hst]at hl
                       cases hl
                       have har:=l8 (pq h2 (by omega)) (len*i.size)
                       obtain⟨w',g1,g2,g3⟩:=p4 (P:=P) (a:=eH a (len*i.size)) hh har hst l3
                       exact⟨.slice (some a') (len+n) cap',mu,w',by simp [g1],g2,g3,.slice hfit h2⟩
               . simp only [hfit, decide_false,cond_false]at hl
                 by_cases hb:(len+n)*(i.bytes+1)<=70368744177664/\0<i.bytes
                 . simp only [hb.1, hb.2,decide_true,zW,cond_true]at hl
                   cases hz:E.zero e with
                   |none=>simp [hz]at hl
                   | some zs =>
                     simp only [hz,cv]at hl
                     by_cases hzl:zs.length=i.size
                     . simp only [hzl, decide_true,cond_true]at hl
                       have hnext: ∀c,c<len+n-> ¬Builtin.nextslicecap (len+n) c*i.bytes>2 ^48:=by
                        intro c hc
                        have:=yD hc
                        have h3:Builtin.nextslicecap (len+n) c*i.bytes<=3*(len+n)*i.bytes:=Xa _ this
                        have h4:(len+n)*i.bytes<=(len+n)*(i.bytes+1):=Nat.mul_le_mul_left _ (by omega)
                        rw [Nat.mul_assoc]at h3
                        have:(2:Nat) ^48=281474976710656:=rfl
                        omega
                       unfold lZ at hl
                       cases hs with
                       | nils=>
                         simp only [cv,decide_true,cond_true]at hl
                         cases hl
                         rw [oE ok ht0 ht1 hx0 hx1 hit hu hi (l2 w) hb.2 (by omega) (hnext 0 (by omega))]
                         have:=rJ ok hh (e:=e) (i:=i) hz hzl (len:=0) (n:=n) (cap':=0) (s':=.slice none 0 0) (x':=x') (old':=[]) (new':=new') (fun w2 _=>rfl) l4 (by simp) (by rw [<-l3.1];exact l1) (t2:=Tr.ofList new) (s2:=new.length) (Tr.sized_ofList _) (by rw [l3.1];simp) (by
                          intro j v hv;rw [Tr.get_ofList]at hv;exact l3.get hv)
                         obtain⟨v',mu',w',g1,g2,g3,g4⟩:=this
                         exact⟨v',mu',w',g1,g2,g3,by simpa using g4⟩
                       | slice h1 h2=>
                         rename_i a a'
                         simp only []at hl
                         cases hg:h.get a.block with
                         |none=>simp [hg]at hl
                         | some y =>
                           simp only [hg]at hl
                           cases y<;>(try simp only []at hl)<;>try (cases hl;done)
                           rename_i tr sz el md
                           cases hgt:iQ tr sz a.off (len*i.size) new with
                           |none=>simp [hgt]at hl
                           | some p =>
                             obtain⟨t2,s2⟩:=p
                             simp only [hgt]at hl
                             have hmu: ∃c base top cs el' fz,mu a.block=.blk c base top/\w.heap[c]? =some (.cells cs el' fz)/\CRel mu tr sz md base top cs fz:=by
                              unfold dw at h2
                              cases hm:mu a.block with
                              |none=>rw [hm]at h2;exact h2.elim
                              |dead=>have:=hh.dead _ hm;rw [hg]at this;cases this
                              | blk c base top=>
                                obtain⟨y,o,k1,k2,k3⟩:=hh.blk _ c base top hm
                                rw [hg]at k1;cases k1
                                obtain⟨cs,el',fz,rfl,k4⟩:=k3
                                exact⟨c,base,top,cs,el',fz,rfl,k2,k4⟩
                             obtain⟨c,base,top,cs,el',fz,hm,hw,cr⟩:=hmu
                             obtain⟨q1,q2,q3,q4,q5⟩:=yn cr.sized hgt
                             -- the old cells
                             obtain⟨old,hold⟩:=Tr.slice_mk (t:=tr) (i:=a.off) (n:=len*i.size) (fun k hk=>by
                              obtain⟨v,hv⟩:=Tr.get_some cr.sized (show a.off+k<sz by omega);rw [hv];rfl)
                             have hload:h.load a.block a.off (len*i.size)=some old:=by
                              unfold Hp.load;rw [hg];simp only [dB,q1,decide_true,cond_true];exact hold
                             obtain⟨o1,old',o2,o3⟩:=jB (P:=P) hh h1 h2 hload
                             have hget: ∀j v,t2.get j=some v-> ∃v',(old'++new')[j]? =some v'/\ao mu v v':=by
                              intro j v hv
                              by_cases hj:j<len*i.size
                              . rw [q4 j hj,(Tr.slice_spec hold).2 j hj]at hv
                                obtain⟨v',r1,r2⟩:=LR.get o2 hv
                                exact⟨v',by rw [zN (by rw [<-o2.1,o1];exact hj)];exact r1,r2⟩
                              . rw [q5 j (by omega)]at hv
                                obtain⟨v',r1,r2⟩:=LR.get l3 hv
                                exact⟨v',by rw [zU (by rw [<-o2.1,o1];omega),<-o2.1,o1];exact r1,r2⟩
                             have hs2:s2=old'.length+new'.length:=by rw [<-o2.1,<-l3.1,o1];exact q2
                             cases hsp:a.spot with
                             | none=>
                               simp only [hsp]at hl
                               cases hl
                               have hce:cap'=cap:=by
                                unfold dw at h2;rw [hm]at h2;simp only [hsp]at h2;exact h2.1
                               rw [oE ok ht0 ht1 hx0 hx1 hit hu hi (l2 w) hb.2 (by omega) (hnext cap' (by omega))]
                               exact rJ ok hh hz hzl o3 l4 (by rw [<-o2.1];exact o1) (by rw [<-l3.1];exact l1) q3 hs2 hget
                             | some k' =>
                               simp only [hsp,cv]at hl
                               by_cases hk:k'=i.size/\md≠0/\new.all iM=true
                               . obtain ⟨rfl,hmd,hfl⟩:=hk
                                 simp only [hmd,hfl,decide_true,decide_false,Xc,zW,cond_true]at hl
                                 cases hl
                                 have hro: ∀t sz el,h.get a.block≠some (.cells t sz el 0):=by intro t sz' el' e;rw [hg]at e;cases e;exact hmd rfl
                                 by_cases hroom:len+n<=cap'
                                 . -- it fits all the same
                                   rw [tE ok ht0 ht1 hx0 hx1 hit hu hi (l2 w) hroom]
                                   simp only [Sem.run_bind,l4 w rfl,Result.andThen_ok]
                                   have h2':=h2
                                   unfold dw at h2'
                                   rw [hm]at h2'
                                   simp only [hsp]at h2'
                                   obtain⟨s1,s2',s3,s4,s5⟩:=h2'
                                   have hnk:(len+n)*i.size<=cap'*i.size:=Xa _ hroom
                                   have hnk2:len*i.size+n*i.size=(len+n)*i.size:=(Xd _ _ _).symm
                                   have hln:new'.length=n*i.size:=by rw [<-l3.1];exact l1
                                   have hcsz:=cr.whole
                                   have hone: ∀v∈new',v.oneCell'=true:=by
                                    intro v hv
                                    obtain⟨j,hj⟩:=List.mem_iff_getElem?.1 hv
                                    have hj':j<new.length:=by rw [l3.1];exact(List.getElem?_eq_some_iff.1 hj).1
                                    have:=l3.2 j _ v (zO hj') hj
                                    refine this.flat ?_
                                    simp only [zP]at hfl
                                    exact hfl _ (zX hj')
                                   have hrun:=run_storeCells_cells (P:=P) c (a'.off+len*i.size) new' 0 w (fun j hj=>by
                                    simp only [World.cell?,hw]
                                    simp
                                    omega) (fun j hj=>by
                                    simp only [World.frozen?,hw]
                                    have:=cr.free hmd (a'.off+len*i.size+0+j) (by omega)
                                    simp only [Xg,decide_eq_false_iff_not]
                                    by_cases hx:fz.1<=a'.off+len*i.size+0+j
                                    . right;exact fun hy=>this ⟨hx,hy⟩
                                    . left;exact hx) hone
                                   rw [Nat.add_zero]at hrun
                                   have hadd:a'.add (len*i.size)=⟨c,a'.off+len*i.size,none⟩:=by rw [kX _ _ s3,s2']
                                   obtain⟨cs2,ws,e2⟩:=uY (a'.off+len*i.size) new' hw
                                   have hlen2:cs2.size=cs.size:=by
                                    have:cs2.toList.length=cs.toList.length:=by rw [e2,oA]
                                    simpa using this
                                   have hle:Le mu (upd mu a.block .dead):=by
                                    intro b' _
                                    by_cases hbb:b'=a.block
                                    . subst hbb;right;exact upd_same _ _ _
                                    . left;exact aK _ _ hbb
                                   obtain⟨g1,g2⟩:=hrel_move hh (x:=.cells t2 s2 e 1) (base2:=a'.off) hm hro ws ⟨cs2,el',fz,rfl,by rw [hlen2];exact hcsz,by omega,q3,by
                                    intro j v hv
                                    rw [<-zM,e2,wS _ _ _ _ (show a'.off+len*i.size+new'.length<=cs.toList.length by have:cs.toList.length=cs.size:=rfl;omega)]
                                    by_cases hj:j<len*i.size
                                    . rw [if_neg (by omega)]
                                      rw [q4 j hj]at hv
                                      obtain⟨v',r1,r2⟩:=cr.get _ _ hv
                                      have hoff:a'.off=base+a.off:=by
                                       rcases s5 with s5|s5
                                       . have:len=0:=by omega
                                         subst this;simp at hj
                                       . exact s5
                                      exact⟨v',by rw [zM,hoff,Nat.add_assoc];exact r1,r2.mono hle⟩
                                    . rw [q5 j (by omega)]at hv
                                      obtain⟨v',r1,r2⟩:=LR.get l3 hv
                                      have hjl:j-len*i.size<new'.length:=(List.getElem?_eq_some_iff.1 r1).1
                                      rw [if_pos (by omega),show a'.off+j-(a'.off+len*i.size)=j-len*i.size by omega]
                                      exact⟨v',r1,r2.mono hle⟩,fun _=>by
                                    intro j hj;exact cr.free hmd j (by omega)⟩
                                   refine⟨.slice (some a') (len+n) cap',_,_,?_,g1,g2,.slice (zQ _) ?_⟩
                                   . simp only [hadd,hrun,Result.andThen_ok,Sem.run_pure]
                                   . unfold dw;simp only [upd_same];exact⟨hroom,s2',s3,s4,by right;rfl⟩
                                 . rw [oE ok ht0 ht1 hx0 hx1 hit hu hi (l2 w) hb.2 hroom (hnext cap' (by omega))]
                                   have hle:Le mu (upd mu a.block .dead):=by
                                    intro b' _
                                    by_cases hbb:b'=a.block
                                    . subst hbb;right;exact upd_same _ _ _
                                    . left;exact aK _ _ hbb
                                   obtain⟨k1,k2⟩:=oe hh hm hro (w':=w) ⟨rfl,hw,fun _ _=>rfl,rfl,rfl,rfl⟩
                                   obtain⟨v',mu',w',g1,g2,g3,g4⟩:=rJ ok k1 hz hzl o3 l4 (by rw [<-o2.1];exact o1) (by rw [<-l3.1];exact l1) q3 hs2 (fun j v hv=>by
                                    obtain⟨v',r1,r2⟩:=hget j v hv;exact⟨v',r1,r2.mono hle⟩)
                                   exact⟨v',mu',w',g1,g2,k2.trans g3,g4⟩
                               . have:(decide (k'=i.size)&& !decide (md=0)&&new.all iM)=false:=by
                                  rw [<-zT];simpa [and_assoc]using hk
                                 rw [this]at hl;simp at hl
                     . simp [hzl]at hl
                 . have:(decide ((len+n)*(i.bytes+1)<=70368744177664)&&decide (0<i.bytes))=false:=by
                    rw [<-zT];simpa using hb
                   rw [this]at hl;simp at hl
end
end Go.Ab

namespace Go.Ab
section
variable{E:Env}{P:Program}(ok:EOk E P)
include ok

omit ok in
theorem oJ(a b:Nat):dL a b=Xh a b:=by
 unfold dL;rw [dB]
 by_cases h:a<=b
 . simp only [h,decide_true,cond_true];exact(Nat.min_eq_left h).symm
 . simp only [h,decide_false,cond_false];exact(Nat.min_eq_right (by omega)).symm
theorem copyV_run {mu:Mu} {h h':Hp} {w:World} (hh:aJ mu h w) {ts:Array TypeId} {ty:TypeId} {xs:Array Value} {s s' x x' v:Value} (hx0:xs[0]? =some s') (hx1:xs[1]? =some x')
 (hl:copyV E h ts.toList s x=some (h',v)) (hs:ao mu s s') (hx:ao mu x x'):
 ∃v' mu' w',(Builtin.copy_ ts ty xs).run P w=.ok v' w'/\aJ mu' h' w'/\Ext mu h w mu' h' w'/\ao mu' v v':=by
 unfold copyV at hl
 cases hts:ts.toList with
 |nil=>simp [hts]at hl
 | cons t ts1=>
   have ht0:ts[0]? =some t:=by rw [<-zM,hts];rfl
   simp only [hts]at hl
   cases hu:E.und t with
   |none=>simp [hu]at hl
   | some d =>
     simp only [hu]at hl
     cases d<;>(try simp only []at hl)<;>try (cases hl;done)
     rename_i e
     cases hk:E.sz e with
     |none=>simp [hk]at hl
     | some k=>
       simp only [hk]at hl
       have hsl: ∃a len cap,s=.slice a len cap:=by
        cases s<;>simp at hl<;>exact⟨_,_,_,rfl⟩
       obtain⟨a,len,cap,rfl⟩:=hsl
       have hsl': ∃a' cap',s'=.slice a' len cap'/\len<=cap:=by
        cases hs with
        |nils=>exact⟨none,0,rfl,zQ _⟩
        |slice h1 h2=>exact⟨some _,_,rfl,h1⟩
       obtain⟨a',cap',rfl,hlc⟩:=hsl'
       unfold Builtin.copy_
       simp only [ht0,hx0,hx1,Sem.run_bind,aR ok hu,Result.andThen_ok]
       simp only []at hl
       cases hx<;>(try simp only []at hl)<;>try (cases hl;done)
       . cases hl
         refine⟨goInt 0,mu,w,?_,hh,Ext.refl mu h w hh,.int _ _⟩
         have:Xh 0 len=0:=Nat.zero_min len
         cases a'<;>simp [Builtin.lenOf,dI ok hk,Builtin.firstCells,this,storeCells]
       . rename_i b b' m cp cp' h1 h2
         cases hld:h.load b.block b.off (dL m len*k)with
         |none=>simp [hld]at hl
         | some l=>
           simp only [hld]at hl
           have hnm:dL m len<=cp:=by rw [oJ];exact Nat.le_trans (Nat.min_le_left m len) h1
           obtain⟨o1,l',o2,o3⟩:=jB (P:=P) hh (len:=dL m len) hnm h2 hld
           have o4:(Builtin.firstCells k (Xh m len) (.slice (some b') m cp')).run P w=.ok l'.toArray w:=by
            rw [<-oJ];exact o3 w rfl
           cases l with
           | nil=>
             simp only []at hl
             cases hl
             have:l'=[]:=o2.nil_left
             subst this
             refine⟨goInt (Xh m len:Nat),mu,w,?_,hh,Ext.refl mu h w hh,by rw [oJ];exact .int _ _⟩
             cases a'<;>simp [Builtin.lenOf,dI ok hk,o4,storeCells]
           | cons y ys=>
             simp only []at hl
             cases a with
             |none=>simp at hl
             | some a=>
               cases hs with
               | slice q1 q2=>
                 rename_i a'
                 simp only []at hl
                 cases hst:h.store a.block a.off (y::ys)with
                 |none=>simp [hst]at hl
                 | some h2'=>
                   simp only [hst]at hl
                   cases hl
                   have hcap:cap≠0:=by
                    intro e0
                    have:len=0:=by omega
                    subst this
                    rw [oJ,show Xh m 0=0 from Nat.min_zero m]at o1;simp at o1
                   obtain⟨w',g1,g2,g3⟩:=p4 (P:=P) hh (pq q2 hcap) hst o2
                   refine⟨goInt (Xh m len:Nat),mu,w',?_,g2,g3,by rw [oJ];exact .int _ _⟩
                   simp [Builtin.lenOf,dI ok hk,o4,g1]

omit ok in
theorem xX{mu:Mu}{l l':List Value}{r:List UInt8}(h:bytesOf l=some r)(hl:VL mu l l')(s:ByteArray)(w:World)(m:String):
 (forIn l' s (fun c s=>match c with| .int .u8 n=>pure (ForInStep.yield (s.push (UInt8.ofNat n.toNat)))|_=>do stuck m;pure (ForInStep.yield s)):Sem ByteArray).run P w=.ok (gy (aH s++r)) w:=by
 induction l generalizing l' r s with
 | nil=>
   rw [hl.nil_left]
   simp only [bytesOf]at h
   cases h
   simp [gy,aH]
 | cons x l ih=>
   obtain⟨x',q,rfl,h1,h2⟩:=hl.cons_left
   have: ∃n:Nat,x=.int .u8 (n:Int):=by
    unfold bytesOf at h
    split at h
    . rename_i heq;cases heq
    . rename_i n l2 heq;injection heq with e1 e2;exact⟨n,e1⟩
    . cases h
   obtain⟨n,rfl⟩:=this
   cases h1
   have h':(match bytesOf l with|none=>none|some r=>some (UInt8.ofNat n::r))=some r:=h
   cases hb:bytesOf l with
   |none=>simp [hb]at h'
   | some r2=>
     simp only [hb]at h'
     cases h'
     simp only [List.forIn_cons,Sem.run_bind,Sem.run_pure,Result.andThen_ok,Int.toNat_natCast]
     rw [ih hb h2]
     simp [gy,aH]

omit ok in
theorem zm(w:World)(cs:Array Value)(e:TypeId):
 WNew w ({w with heap:=w.heap.push (.cells cs e)}.freeze {block:=w.heap.size,off:=cs.size} 1) (.cells cs e (cs.size,cs.size+1)):=by
 refine⟨?_,rfl,rfl,rfl⟩
 simp only [World.freeze,if_neg (show¬(1:Nat)=0 by omega)]
 apply Array.ext_getElem?
 intro j
 rw [zY,Xk,Xk]
 by_cases hj:w.heap.size=j
 . subst hj;simp
 . rw [if_neg hj,if_neg (Ne.symm hj),if_neg (Ne.symm hj)]

theorem convV_run {mu:Mu} {h h':Hp} {w:World} (hh:aJ mu h w) {src dst:TypeId} {x x' v:Value} (hl:jH E h src dst x=some (h',v)) (hx:ao mu x x'):
 ∃v' mu' w',(convert src dst x').run P w=.ok v' w'/\aJ mu' h' w'/\Ext mu h w mu' h' w'/\ao mu' v v':=by
 unfold jH at hl
 cases hk:bW E src dst with
 |none=>simp [hk]at hl
 | some q =>
   obtain⟨n,e⟩:=q
   unfold bW at hk
   cases hu:E.und src with
   |none=>simp [hu]at hk
   | some d =>
     simp only [hu]at hk
     have plain:(∀e,d≠ .slice e)->n=0-> ∃v' mu' w',(convert src dst x').run P w=.ok v' w'/\aJ mu' h' w'/\Ext mu h w mu' h' w'/\ao mu' v v':=by
      intro hd hn
      subst hn
      have hk0:bW E src dst=some (0,e):=by unfold bW;simp only [hu];exact hk
      simp only [hk0]at hl
      cases hc:jz E dst x with
      |none=>simp [hc]at hl
      | some u=>
        simp only [hc]at hl
        cases hl
        obtain⟨g1,g2⟩:=convP_run ok hu hd hc hx w
        exact⟨_,mu,w,g1,hh,Ext.refl mu h w hh,g2⟩
     cases d<;>(try simp only []at hk)<;>(try (cases hk;exact plain (by intro e he;cases he) rfl))
     case string=>
      cases hud:E.und dst with
      |none=>simp [hud]at hk
      | some dd=>
        simp only [hud]at hk
        cases dd<;>(try simp only []at hk)<;>(try (cases hk;exact plain (by intro e he;cases he) rfl))
        rename_i e2
        cases hue:E.und e2 with
        |none=>simp [hue]at hk
        | some de=>
          simp only [hue]at hk
          have hde:de=.int .u8/\n=2/\e=e2:=by
           cases de<;>(try simp only []at hk)<;>try (cases hk;done)
           rename_i k
           cases k<;>(try simp only []at hk)<;>try (cases hk;done)
           cases hk;exact⟨rfl,rfl,rfl⟩
          obtain⟨rfl,rfl,rfl⟩:=hde
          have hk2:bW E src dst=some (2,e):=by unfold bW;simp only [hu,hud,hue]
          simp only [hk2]at hl
          cases hx<;>(try simp only []at hl)<;>try (cases hl;done)
          rename_i s
          rw [dB]at hl
          by_cases hsz:s.size<=1099511627776
          . simp only [hsz,decide_true,cond_true,bytesV]at hl
            cases hl
            obtain⟨nc,hnc⟩: ∃nc,nc=(Question.appendCap s.size 0 e).cut (w.tape w.drawn (.appendCap s.size 0 e)):=⟨_,rfl⟩
            have hge:s.size<=nc:=by rw [hnc];simp only [Question.cut];omega
            obtain⟨cs,hcs⟩: ∃cs:Array Value,cs=(s.data.map fun b=>Value.int .u8 b.toNat)++Array.replicate (nc-s.size) (.int .u8 0):=⟨_,rfl⟩
            have hsize:cs.size=nc:=by
             rw [hcs];simp only [Array.size_append,Array.size_map,Array.size_replicate]
             have:s.data.size=s.size:=rfl
             omega
            have hd:aJ mu h {w with drawn:=w.drawn+1}:=qq hh rfl
            have hwn:=zm {w with drawn:=w.drawn+1} cs e
            have hlen:(aH s).length=s.size:=rfl
            obtain⟨g1,g2⟩:=li (x:=.cells (Tr.ofList ((aH s).map fun b=>.int .u8 (.ofNat b.toNat))) s.size e 1) (base:=0) (top:=cs.size) hd hwn ⟨cs,e,(cs.size,cs.size+1),rfl,rfl,by omega,by
             have:=Tr.sized_ofList ((aH s).map fun b=>Value.int .u8 (.ofNat b.toNat));rwa [Xf,hlen]at this,by
             intro j v hv
             rw [Tr.get_ofList]at hv
             have hj:j<s.size:=by have:=(List.getElem?_eq_some_iff.1 hv).1;rwa [Xf,hlen]at this
             refine⟨v,?_,?_⟩
             . rw [zZ,<-zM,hcs]
               simp only [zV,zR]
               rw [zN (by rw [Xf];exact hj)]
               exact hv
             . simp only [List.getElem?_map,Option.map_eq_some_iff]at hv
               obtain⟨b,_,rfl⟩:=hv
               exact .int _ _,by intro _ j hj hx;omega⟩
            refine⟨.slice (some ⟨w.heap.size,0,none⟩) s.size nc,_,_,?_,g1,(rB (w':={w with drawn:=w.drawn+1}) hh rfl rfl rfl rfl).trans g2,?_⟩
            . have hf:(Question.appendCap s.size 0 e).forced=false:=rfl
              have hshape:World.shape? {w with drawn:=w.drawn+1,heap:=w.heap.push (.cells cs e)} w.heap.size=some (e,cs.size):=by
               simp [World.shape?]
              simp only [convert,Sem.run_bind,aR ok hu,aR ok hud,aR ok hue,Result.andThen_ok,Conv.stringToBytes,run_choose,hf,zS,if_false,<-hnc,newRow,run_newObj,Sem.run_pure,<-hcs,markStringish,run_shape,hshape,run_freeze]
            . exact uP mu h.n w.heap.size cs.size s.size s.size nc 1 (zQ _) hge (by omega)
          . simp [hsz]at hl
     case slice e2=>
      cases hud:E.und dst with
      |none=>simp [hud]at hk
      | some dd =>
        simp only [hud]at hk
        cases dd<;>(try simp only []at hk)<;>try (cases hk;done)
        cases hue:E.und e2 with
        |none=>simp [hue]at hk
        | some de =>
          simp only [hue]at hk
          have hde:de=.int .u8/\n=1/\e=e2:=by
           cases de<;>(try simp only []at hk)<;>try (cases hk;done)
           rename_i k
           cases k<;>(try simp only []at hk)<;>try (cases hk;done)
           cases hk;exact⟨rfl,rfl,rfl⟩
          obtain⟨rfl,rfl,rfl⟩:=hde
          have hk2:bW E src dst=some (1,e):=by unfold bW;simp only [hu,hud,hue]
          simp only [hk2]at hl
          cases hst:strOf h x with
          |none=>simp [hst]at hl
          | some u=>
            simp only [hst]at hl
            cases hl
            unfold strOf at hst
            cases hx<;>(try simp only []at hst)<;>try (cases hst;done)
            . cases hst
              refine⟨.string .empty,mu,w,?_,hh,Ext.refl mu h w hh,.string _⟩
              simp [convert,aR ok hu,aR ok hud,aR ok hue,Conv.bytesToString]
            . rename_i a a' len cap cap' h1 h2
              cases hld:h.load a.block a.off len with
              |none=>simp [hld]at hst
              | some l=>
                simp only [hld]at hst
                cases hb:bytesOf l with
                |none=>simp [hb]at hst
                | some r=>
                  simp only [hb]at hst
                  cases hst
                  obtain⟨o1,l',o2,o3⟩:=jB (P:=P) hh (len:=len) (k:=1) h1 h2 (by rw [Xl];exact hld)
                  have o4:=o3 w rfl
                  simp only [Builtin.firstCells,Xl]at o4
                  have hf:=fun m=>xX (P:=P) hb o2 ByteArray.empty w m
                  refine⟨.string (gy r),mu,w,?_,hh,Ext.refl mu h w hh,.string _⟩
                  simp only [convert,Sem.run_bind,aR ok hu,aR ok hud,aR ok hue,Result.andThen_ok,Conv.bytesToString,o4]
                  rw [List.forIn_toArray]
                  refine(congrArg (fun q=>Result.andThen q (fun a w'=>Sem.run P (pure (Value.string a)) w')) (hf _)).trans ?_
                  simp [aH]

omit ok in
theorem zp{mu:Mu}{f f':Value}{args:List Value}{args':Array Value}{nx:c9}{h:Hp}{w:World}(ht:target f args=some nx)(hf:ao mu f f')(ha:VL mu args args'.toList):
 Res P mu h w (do let d<-Deferred.ofValue f' args';invoke d.target d.args) h nx:=by
 unfold target at ht
 cases hf<;>(try simp only []at ht)<;>try (cases ht;done)
 . rename_i g x x' y y' h1 h2 h3 h4
   cases ht
   refine⟨rfl,x'++args'++y',by simp [Deferred.ofValue,invoke],?_⟩
   simp only [zV]
   exact LR.append (LR.append ⟨h1,h2⟩ ha) ⟨h3,h4⟩
 . rename_i b c hp
   simp at ht
   subst ht
   exact⟨rfl,c,args',by simp [Deferred.ofValue,invoke],hp,ha⟩

theorem aop_run {mu:Mu} {h h':Hp} {w:World} (hh:aJ mu h w) {ρ ρ':Operand->Value} (hρ: ∀x,ao mu (ρ x) (ρ' x)) {o:Oper} {nx:c9} (hl:aop E ρ h o.op=some (nx,h')):
 Res P mu h w (execOp ρ' o) h' nx:=by
 have vlist: ∀l:List Operand,VL mu (l.map ρ) (l.map ρ'):=fun l=>LR.mapSame l hρ
 have pure_: ∀{v:Value},pop E ρ o.op=some v->Res P mu h w (execOp ρ' o) h (.val v):=by
  intro v hv
  obtain⟨v',g1,g2⟩:=pop_run ok hρ hv w
  exact⟨v',mu,w,g1,hh,Ext.refl mu h w hh,g2⟩
 have wr: ∀{r:Option Value},bS h r=some (nx,h')-> ∃v,r=some v/\nx=.val v/\h'=h:=by
  intro r hr
  cases r with
  |none=>cases hr
  |some v=>cases hr;exact⟨v,rfl,rfl,rfl⟩
 have wv: ∀{r:Option (Hp×Value)},cH r=some (nx,h')-> ∃v,r=some (h',v)/\nx=.val v:=by
  intro r hr
  cases r with
  |none=>cases hr
  |some q=>obtain⟨a,b⟩:=q;cases hr;exact⟨b,rfl,rfl⟩
 have wu: ∀{r:Option Hp},fb r=some (nx,h')->r=some h'/\nx=.skip:=by
  intro r hr
  cases r with
  |none=>cases hr
  |some q=>cases hr;exact⟨rfl,rfl⟩
 obtain⟨dst,op,type,pos,after,guard⟩:=o
 simp only []at hl pure_
 unfold execOp
 simp only []
 cases op
 case load t a=>
  obtain⟨v,hv,rfl,rfl⟩:=wr hl
  obtain⟨v',g1,g2⟩:=ur ok hh hv (hρ a)
  exact⟨v',mu,w,by simp [g1],hh,Ext.refl mu _ w hh,g2⟩
 case store t a x=>
  obtain⟨hv,rfl⟩:=wu hl
  obtain⟨w',g1,g2,g3⟩:=zx ok hh hv (hρ a) (hρ x)
  exact⟨mu,w',by simp [g1],g2,g3⟩
 case convert s d x=>
  obtain⟨v,hv,rfl⟩:=wv hl
  obtain⟨v',mu',w',g1,g2,g3,g4⟩:=convV_run ok hh hv (hρ x)
  exact⟨v',mu',w',by simp [g1],g2,g3,g4⟩
 case alloc e=>
  simp only [aop]at hl
  cases hz:E.zero e with
  |none=>simp [hz]at hl
  | some z=>
    simp only [hz]at hl
    obtain⟨v,hv,rfl⟩:=wv hl
    cases hv
    obtain⟨zv,z1,z2,z3,z4⟩:=lh ok hz w
    have hr:VL mu z zv.cells.toList:=by
     rw [z2];exact LR.refl fun a ha=>ao.const mu (by simp only [zP]at z4;exact z4 a ha)
    obtain⟨g1,g2⟩:=mZ hh (el:=e) hr (gm w (.cells zv.cells e)) (Tr.sized_ofList z) (Tr.get_ofList z)
    exact⟨.pointer (some ⟨w.heap.size,0,none⟩),_,_,by simp [Instr.alloc,z1,newVar,newRow],g1,g2,.ptr (tH mu h.n w.heap.size 0 _)⟩
 case box e x=>
  simp only [aop]at hl
  have hne: ∀y,ρ x≠ .chan y:=by intro y e;rw [e]at hl;cases hl
  have hl':cH (some (o7 h (an (ρ x)) e))=some (nx,h'):=by
   revert hl;cases hr:ρ x<;>intro hl<;>first|exact hl|exact absurd hr (hne _)
  obtain⟨v,hv,rfl⟩:=wv hl'
  cases hv
  have hr:=(hρ x).cells hne
  obtain⟨g1,g2⟩:=mZ hh (el:=e) hr (gm w (.cells (ρ' x).cells e)) (Tr.sized_ofList _) (Tr.get_ofList _)
  exact⟨.pointer (some ⟨w.heap.size,0,none⟩),_,_,by simp [Instr.box,newVar,newRow],g1,g2,.ptr (tH mu h.n w.heap.size 0 _)⟩
 case buildSlice t n parts=>
  obtain⟨v,hv,rfl⟩:=wv hl
  have hq:PL mu (parts.toList.map fun p=>(p.1,ρ p.2)) (parts.toList.map fun p=>(p.1,ρ' p.2)):=LR.mapSame _ fun p=>⟨rfl,hρ p.2⟩
  obtain⟨v',mu',w',g1,g2,g3,g4⟩:=tA ok hh hv hq
  have e:(parts.map fun(x:Nat×Operand)=>(x.1,ρ' x.2))=(parts.toList.map fun p=>(p.1,ρ' p.2)).toArray:=by
   apply Xm;simp
  refine⟨v',mu',w',?_,g2,g3,g4⟩
  simp only [Sem.run_bind]
  rw [e,g1];rfl
 case makeSlice t l c=>
  obtain⟨v,hv,rfl⟩:=wv hl
  obtain⟨v',mu',w',g1,g2,g3,g4⟩:=tU ok hh hv (hρ l) (hρ c)
  exact⟨v',mu',w',by simp [g1],g2,g3,g4⟩
 case makeMap t r=>
  cases r with
  |some x=>simp only [aop]at hl;obtain⟨v,hv,rfl,rfl⟩:=wr hl;cases hv
  | none=>
    cases hl
    obtain⟨g1,g2⟩:=li (x:=.map [] 0) (base:=0) (top:=0) hh (gm w (.map #[] 0)) ⟨rfl,#[],rfl,LR.nil⟩
    exact⟨.map (some w.heap.size),_,_,by simp [Instr.makeMap],g1,g2,.map (by unfold di;rw [upd_same];exact⟨rfl,rfl⟩)⟩
 case lookup t m k q=>
  obtain⟨v,hv,rfl,rfl⟩:=wr hl
  obtain⟨v',g1,g2⟩:=xS ok hh hv (hρ m) (hρ k)
  exact⟨v',mu,w,by simp [g1],hh,Ext.refl mu _ w hh,g2⟩
 case mapUpdate t m k x=>
  obtain⟨hv,rfl⟩:=wu hl
  obtain⟨w',g1,g2,g3⟩:=sk ok hh hv (hρ m) (hρ k) (hρ x)
  exact⟨mu,w',by simp [g1],g2,g3⟩
 case insert t m k x=>
  obtain⟨hv,rfl⟩:=wu hl
  obtain⟨w',g1,g2,g3⟩:=sk ok hh hv (hρ m) (hρ k) (hρ x)
  exact⟨mu,w',by simp [g1],g2,g3⟩
 case mapEntry t m k=>
  obtain⟨v,hv,rfl⟩:=wv hl
  obtain⟨v',w',g1,g2,g3,g4⟩:=zG ok hh hv (hρ m) (hρ k)
  exact⟨v',mu,w',by simp [g1],g2,g3,g4⟩
 case entryStore t m s x=>
  obtain⟨hv,rfl⟩:=wu hl
  obtain⟨w',g1,g2,g3⟩:=vC (P:=P) (t:=t) hh hv (hρ m) (hρ s) (hρ x)
  exact⟨mu,w',by simp [g1],g2,g3⟩
 case panic x=>
  simp only [aop]at hl
  have hx:=hρ x
  revert hl
  cases hr:ρ x<;>intro hl<;>(try simp only []at hl)<;>try (cases hl;done)
  cases hl
  rw [hr]at hx
  cases hr':ρ' x<;>rw [hr']at hx<;>cases hx
  rename_i hv
  exact⟨rfl,_,by simp only [hr'];rfl,.iface hv⟩
 case defer c=>
  simp only [aop]at hl
  obtain⟨callee,args,argTypes⟩:=c
  cases callee<;>(try simp only []at hl)<;>try (cases hl;done)
  rename_i f
  have hx:=hρ f
  revert hl
  cases hr:ρ f<;>intro hl<;>(try simp only []at hl)<;>try (cases hl;done)
  rename_i fn a b
  cases fn<;>(try simp only []at hl)<;>try (cases hl;done)
  rename_i g
  cases hl
  rw [hr]at hx
  cases hr':ρ' f<;>rw [hr']at hx<;>cases hx
  rename_i a' b' h1 h2 h3 h4
  refine⟨rfl,{target:=.fn (.func g) b',args:=a'++args.map ρ'},?_,?_⟩
  . simp only [resolve,hr',Deferred.ofValue];simp
  . refine⟨b',rfl,⟨h3,h4⟩,?_⟩
    simp only [zV,zR]
    exact LR.append ⟨h1,h2⟩ (vlist _)
 case call c=>
  obtain⟨callee,args,argTypes⟩:=c
  simp only [aop]at hl
  cases callee<;>(try simp only []at hl)<;>try (cases hl;done)
  case value f=>
   cases ht:target (ρ f) (args.toList.map ρ)with
   |none=>simp [ht]at hl
   | some x=>
     simp only [ht]at hl
     cases hl
     have:=zp (P:=P) (h:=h) (w:=w) (args':=args.map ρ') ht (hρ f) (by rw [zR];exact vlist _)
     exact this
  case builtin b =>
   have arr0: ∀{x:Operand} {l:List Operand},args.toList=x::l->(args.map ρ')[0]? =some (ρ' x):=by
    intro x l e;rw [<-zM,zR,e];rfl
   have arr1: ∀{x y:Operand} {l:List Operand},args.toList=x::y::l->(args.map ρ')[1]? =some (ρ' y):=by
    intro x y l e;rw [<-zM,zR,e];rfl
   have plain: ∀{v:Value},pop E ρ (.call ⟨.builtin b,args,argTypes⟩)=some v->nx=.val v->h'=h->Res P mu h w (do let d<-resolve ρ' ⟨.builtin b,args,argTypes⟩ type;invoke d.target d.args) h' nx:=by
    intro v hv e1 e2
    subst e1;subst e2
    exact pure_ hv
   cases b
   case append=>
    simp only []at hl
    cases ha:args.toList with
    |nil=>simp [ha]at hl
    | cons x l=>
      cases l with
      |nil=>simp [ha]at hl
      | cons y l=>
        simp only [ha]at hl
        obtain⟨v,hv,rfl⟩:=wv hl
        obtain⟨v',mu',w',g1,g2,g3,g4⟩:=yh ok hh (ty:=type) (arr0 ha) (arr1 ha) hv (hρ x) (hρ y)
        exact⟨v',mu',w',by simp [resolve,invoke,builtin,g1],g2,g3,g4⟩
   case copy=>
    simp only []at hl
    cases ha:args.toList with
    |nil=>simp [ha]at hl
    | cons x l=>
      cases l with
      |nil=>simp [ha]at hl
      | cons y l=>
        simp only [ha]at hl
        obtain⟨v,hv,rfl⟩:=wv hl
        obtain⟨v',mu',w',g1,g2,g3,g4⟩:=copyV_run ok hh (ty:=type) (arr0 ha) (arr1 ha) hv (hρ x) (hρ y)
        exact⟨v',mu',w',by simp [resolve,invoke,builtin,g1],g2,g3,g4⟩
   case delete=>
    simp only []at hl
    cases ht:argTypes.toList with
    |nil=>simp [ht]at hl
    | cons t ts=>
      cases ha:args.toList with
      |nil=>simp [ht,ha]at hl
      | cons x l=>
        cases l with
        |nil=>simp [ht,ha]at hl
        | cons y l=>
          simp only [ht,ha]at hl
          cases hd:kH E h t (ρ x) (ρ y)with
          |none=>simp [hd]at hl
          | some h2=>
            simp only [hd]at hl
            cases hl
            obtain⟨w',g1,g2,g3⟩:=zq ok hh (ty:=type) (ts:=argTypes) (by rw [<-zM,ht];rfl) (arr0 ha) (arr1 ha) hd (hρ x) (hρ y)
            exact⟨.tuple #[],mu,w',by simp [resolve,invoke,builtin,g1],g2,g3,.tuple rfl (by intro i v v' hv;simp at hv)⟩
   case recover=>
    simp only []at hl
    cases hl
    exact⟨rfl,by simp [resolve,invoke,builtin]⟩
   case len =>
    simp only []at hl
    cases hp:pop E ρ (.call ⟨.builtin .len,args,argTypes⟩)with
    |some v=>simp only [hp]at hl;cases hl;exact plain hp rfl rfl
    | none=>
      simp only [hp]at hl
      cases ha:args.toList with
      |nil=>simp [ha]at hl
      | cons x l =>
        simp only [ha]at hl
        have hx:=hρ x
        revert hl
        cases hr:ρ x<;>intro hl<;>(try simp only []at hl)<;>try (cases hl;done)
        rename_i r
        cases r with
        |none=>simp at hl
        | some r =>
          simp only []at hl
          rw [hr]at hx
          cases hg:h.get r with
          |none=>simp [hg]at hl
          | some y=>
            simp only [hg]at hl
            cases y<;>(try simp only []at hl)<;>try (cases hl;done)
            rename_i es clock
            cases ht:argTypes.toList with
            |nil=>simp [ht]at hl
            | cons t ts=>
              simp only [ht]at hl
              cases hu:E.und t with
              |none=>simp [hu]at hl
              | some d=>
                simp only [hu]at hl
                cases d<;>(try simp only []at hl)<;>try (cases hl;done)
                cases hl
                cases hr':ρ' x<;>rw [hr']at hx<;>cases hx
                rename_i c hpr
                obtain⟨top,es',k1,k2,k3⟩:=sK hh hpr hg
                have e0:argTypes[0]? =some t:=by rw [<-zM,ht];rfl
                have e1:=arr0 ha
                rw [hr']at e1
                have hlen:es.length=es'.size:=k3.1
                refine⟨.int .i64 es'.size,mu,w,?_,hh,Ext.refl mu _ w hh,by rw [hlen];exact .int _ _⟩
                have:(Builtin.len_ argTypes type (args.map ρ')).run P w=.ok (.int .i64 es'.size) w:=by
                 unfold Builtin.len_
                 simp only [e0,e1,Sem.run_bind,aR ok hu,Result.andThen_ok,iJ k2]
                 rfl
                simp [resolve,invoke,builtin,this]
   all_goals (simp only []at hl;obtain⟨v,hv,e1,e2⟩:=wr hl;exact plain hv e1 e2)
 all_goals (simp only [aop]at hl;obtain⟨v,hv,rfl,rfl⟩:=wr hl;exact pure_ hv)
end
end Go.Ab

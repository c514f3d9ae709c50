/- A deterministic evaluator of the model's code, and that the model follows it (part 2). -/
import Derived.Test.YtdpmdpbhjgaocaaGreatDoorAbA
import Derived.Laws.IdiomCopy
open Array renaming getElem?_toList->xW,toList_map->ya,toList_append->ye,getElem?_modify->yh,toList_modify->yj,range->yn,getElem?_push->yv,ext'->yw
open Nat renaming beq->xX,le_refl->xZ,mul_le_mul_right->yi,lor->yl,add_mul->ym,pow->yo,zero_add->yq,min->yu
open List renaming getElem?_append_left->xY,getElem?_append_right->yd,all_eq_true->yg,getElem?_eq_getElem->yp,length_map->yr
open Bool renaming false_eq_true->yb,not_eq_true->yc,and_self->yf,not_false->yk,and_eq_false_iff->yt
set_option maxHeartbeats 400000
set_option linter.defProp false
set_option linter.unusedVariables false
set_option linter.unusedSimpArgs false
namespace Go.Ab
section
variable{E:Env}{P:Program}(ok:EOk E P)
include ok
theorem pop_run{mu:Mu}{ρ ρ':Operand->Value}(hρ: ∀x,ao mu (ρ x) (ρ' x)){o:Oper}{v:Value}(h:pop E ρ o.op=some v)(w:World):
 ∃v',(execOp ρ' o).run P w=.ok (.value v') w/\ao mu v v':=by
 have vlist: ∀l:List Operand,VL mu (l.map ρ) (l.map ρ'):=fun l=>LR.mapSame l hρ
 unfold execOp
 obtain⟨dst,op,type,pos,after,guard⟩:=o
 simp only []at h⊢
 cases op<;>simp only [pop]at h<;>try (cases h;done)
 case move x=>cases h;exact⟨_,rfl,hρ x⟩
 case assign x=>cases h;exact⟨_,rfl,hρ x⟩
 case pick c a b=>
  have hc:=hρ c
  cases hr:ρ c<;>rw [hr]at h hc<;>(try simp only []at h)<;>try (cases h;done)
  rename_i t
  cases hr':ρ' c<;>rw [hr']at hc<;>cases hc
  cases h
  cases t
  . exact⟨_,by simp [asBool,hr'],hρ b⟩
  . exact⟨_,by simp [asBool,hr'],hρ a⟩
 case nilCheck x=>
  have hc:=hρ x
  cases hr:ρ x<;>rw [hr]at h hc<;>(try simp only []at h)<;>try (cases h;done)
  . rename_i a
    cases a with
    |none=>simp at h
    | some a=>
      cases h
      cases hr':ρ' x<;>rw [hr']at hc<;>cases hc
      rename_i a' ha
      exact⟨.pointer (some a'),by simp only [hr'];rfl,.ptr ha⟩
  . rename_i fn a b
    cases fn<;>(try simp only []at h)<;>try (cases h;done)
    cases h
    cases hr':ρ' x<;>rw [hr']at hc<;>cases hc
    rename_i h1 h2 h3 h4
    exact⟨_,by simp only [hr'];rfl,.fn h1 h2 h3 h4⟩
 case binOp op t x y u=>
  obtain⟨h1,h2,h3⟩:=binP_run ok h (hρ x) (hρ y) w
  exact⟨v,by simp [h1,h2],h3⟩
 case unOp op t x=>
  obtain⟨h1,h2⟩:=unP_run (P:=P) h (hρ x) w
  exact⟨v,by simp [h1],h2⟩
 case makeInterface t x=>
  cases hu:E.und t with
  |none=>simp [hu]at h
  | some d=>
    simp only [hu]at h
    cases d<;>(try simp only []at h)<;>try (cases h;done)
    all_goals (cases h;exact⟨.iface t (ρ' x),by simp [Instr.makeInterface,aM ok hu],.iface (hρ x)⟩)
 case makeFunc fn a b=>
  cases fn<;>(try simp only []at h)<;>try (cases h;done)
  cases h
  refine⟨_,rfl,.fn (by simp) ?_ (by simp) ?_⟩
  . have:=(vlist a.toList).2;simpa using this
  . have:=(vlist b.toList).2;simpa using this
 case slice t x l hi m=>
  obtain⟨v',h1,h2⟩:=wQ ok h (hρ x) (OR.map hρ l) (OR.map hρ hi) (OR.map hρ m) w
  exact⟨v',by simp [h1],h2⟩
 case fieldAddr t x i=>
  obtain⟨v',h1,h2⟩:=rX ok h (hρ x) w
  exact⟨v',by simp [h1],h2⟩
 case field t x i=>
  obtain⟨v',h1,h2⟩:=w6 ok h (hρ x) w
  exact⟨v',by simp [h1],h2⟩
 case indexAddr t x i=>
  obtain⟨v',h1,h2⟩:=rP ok h (hρ x) (hρ i) w
  exact⟨v',by simp [h1],h2⟩
 case index t x i=>
  obtain⟨v',h1,h2⟩:=xh ok h (hρ x) (hρ i) w
  exact⟨v',by simp [h1],h2⟩
 case extract t i=>
  have hc:=hρ t
  cases hr:ρ t<;>rw [hr]at h hc<;>(try simp only []at h)<;>try (cases h;done)
  cases hr':ρ' t<;>rw [hr']at hc<;>cases hc
  rename_i vs vs' h1 h2
  obtain⟨v',g1,g2⟩:=LR.get (⟨h1,h2⟩:VL mu vs.toList vs'.toList) h
  have:vs'[i]? =some v':=by rw [<-xW];exact g1
  exact⟨v',by simp only [Instr.extract,hr',this];rfl,g2⟩
 case build t parts=>
  have hq:PL mu (parts.toList.map fun p=>(p.1,ρ p.2)) (parts.toList.map fun p=>(p.1,ρ' p.2)):=LR.mapSame _ fun p=>⟨rfl,hρ p.2⟩
  obtain⟨v',h1,h2⟩:=xc ok h hq w
  have e:(parts.map fun(x:Nat×Operand)=>(x.1,ρ' x.2))=(parts.toList.map fun p=>(p.1,ρ' p.2)).toArray:=by
   apply yw;simp
  refine⟨v',?_,h2⟩
  simp only [Sem.run_bind]
  rw [e,h1];rfl
 case typeAssert x s t q=>
  obtain⟨v',h1,h2⟩:=vz ok (s:=s) h (hρ x) w
  exact⟨v',by simp [h1],h2⟩
 case call c=>
  obtain⟨callee,args,argTypes⟩:=c
  simp only []at h
  cases callee<;>(try simp only []at h)<;>try (cases h;done)
  rename_i b
  cases b<;>(try simp only []at h)<;>try (cases h;done)
  case len=>
   cases ht:argTypes.toList with
   |nil=>simp [ht]at h
   | cons t ts=>
     cases ha:args.toList with
     |nil=>simp [ht,ha]at h
     | cons x xs=>
       simp only [ht,ha]at h
       obtain⟨h1,h2⟩:=lenP_run ok (ts:=argTypes) (ty:=type) (xs:=args.map ρ') (by rw [ht];rfl) (by simp [ha]) h (hρ x) w
       exact⟨v,by simp [resolve,invoke,builtin,h1],h2⟩
  case min=>
   cases ha:args.toList.map ρ with
   |nil=>simp [ha]at h
   | cons x l=>
     simp only [ha]at h
     have hl:=vlist args.toList
     rw [ha]at hl
     obtain⟨x',l',e1,e2,e3⟩:=hl.cons_left
     cases l with
     | nil=>
       simp only [eZ]at h
       cases h
       rw [e3.nil_left]at e1
       exact⟨x',by simp [resolve,invoke,builtin,Builtin.min_,e1],e2⟩
     | cons y l=>
       obtain⟨v',g1,g2⟩:=qG (P:=P) false h e2 e3 (by intro c e;subst e;simp [eZ]at h) w
       simp only [yb,if_false]at g1
       exact⟨v',by simp [resolve,invoke,builtin,Builtin.min_,e1,g1],g2⟩
  case max=>
   cases ha:args.toList.map ρ with
   |nil=>simp [ha]at h
   | cons x l=>
     simp only [ha]at h
     have hl:=vlist args.toList
     rw [ha]at hl
     obtain⟨x',l',e1,e2,e3⟩:=hl.cons_left
     cases l with
     | nil=>
       simp only [eZ]at h
       cases h
       rw [e3.nil_left]at e1
       exact⟨x',by simp [resolve,invoke,builtin,Builtin.max_,e1],e2⟩
     | cons y l=>
       obtain⟨v',g1,g2⟩:=qG (P:=P) true h e2 e3 (by intro c e;subst e;simp [eZ]at h) w
       simp only [if_true]at g1
       exact⟨v',by simp [resolve,invoke,builtin,Builtin.max_,e1,g1],g2⟩
end
end Go.Ab

namespace Go.Ab

theorem ue(l:List Value)(off:Nat)(vs:List Value)(i:Nat)(h:off+vs.length<=l.length):
 (bI l off vs)[i]? =if off<=i/\i<off+vs.length then vs[i-off]? else l[i]? :=by
 induction vs generalizing l off with
 |nil=>simp only [bI,List.length_nil];rw [if_neg (by omega)]
 | cons v vs ih=>
   simp only [bI,List.length_cons]at h⊢
   rw [ih _ _ (by simp;omega)]
   by_cases h1:off+1<=i/\i<off+1+vs.length
   . rw [if_pos h1,if_pos (by omega),show i-off=(i-(off+1))+1 by omega];simp
   . rw [if_neg h1,List.getElem?_set]
     by_cases h2:off=i
     . subst h2;rw [if_pos rfl,if_pos (by omega),if_pos (by omega)];simp
     . rw [if_neg h2,if_neg (by omega)]

theorem setCells_at(c:Nat)(vs:List Value): ∀(o:Nat) (w:World) (cs:Array Value) (el:TypeId) (fz:Nat×Nat),w.heap[c]? =some (.cells cs el fz)->
 ∃cs2,WSet w (w.setCells c o vs) c (.cells cs2 el fz)/\cs2.toList=bI cs.toList o vs:=by
 induction vs with
 |nil=>intro o w cs el fz h;exact⟨cs,⟨rfl,h,fun _ _=>rfl,rfl,rfl,rfl⟩,rfl⟩
 | cons v vs ih=>
   intro o w cs el fz h
   have h1:(w.setCell ⟨c,o,none⟩ v).heap[c]? =some (.cells (cs.setIfInBounds o v) el fz):=by
    simp [World.setCell,yh,h]
   obtain⟨cs2,k1,k2⟩:=ih (o+1) (w.setCell ⟨c,o,none⟩ v) _ el fz h1
   refine⟨cs2,⟨?_,k1.at_,?_,k1.os,k1.tape,k1.output⟩,?_⟩
   . show((w.setCell ⟨c,o,none⟩ v).setCells c (o+1) vs).heap.size=_
     rw [k1.size];simp [World.setCell]
   . intro j hj
     show((w.setCell ⟨c,o,none⟩ v).setCells c (o+1) vs).heap[j]? =_
     rw [k1.other j hj]
     simp only [World.setCell,yh]
     rw [if_neg (Ne.symm hj)]
   . rw [k2];simp [bI]

section
variable{E:Env}{P:Program}

theorem ptr_at{mu:Mu}{h:Hp}{w:World}(hh:aF mu h w){a a':Addr}(har:dC mu a a'){x:Blk}(hg:h.get a.block=some x)(hx:x≠ .dead):
 ∃c base top o,mu a.block=.blk c base top/\a'=⟨c,base+a.off,none⟩/\w.heap[c]? =some o/\jF mu x base top o:=by
 unfold dC at har
 cases hm:mu a.block with
 |none=>rw [hm]at har;exact har.elim
 |dead=>have:=hh.dead _ hm;rw [hg]at this;cases this;exact absurd rfl hx
 | blk c base top=>
   rw [hm]at har
   obtain⟨y,o,h1,h2,h3⟩:=hh.blk _ c base top hm
   rw [hg]at h1;cases h1
   exact⟨c,base,top,o,rfl,har,h2,h3⟩

theorem qk {mu:Mu} {h:Hp} {w:World} (hh:aF mu h w) {a a':Addr} (har:dC mu a a') {n:Nat} {l:List Value} (hl:h.load a.block a.off n=some l):
 l.length=n/\ ∃l',VL mu l l'/\(∀(j:Nat) v',l'[j]? =some v'->w.cell? (a'.add j)=some v'):=by
 unfold Hp.load at hl
 cases hg:h.get a.block with
 |none=>simp [hg]at hl
 | some x=>
   simp only [hg]at hl
   cases x<;>simp only []at hl<;>try (cases hl;done)
   rename_i t sz el md
   obtain⟨c,base,top,o,hm,rfl,ho,hb⟩:=ptr_at hh har hg (by intro e;cases e)
   obtain⟨cs,el',fz,rfl,cr⟩:=hb
   rw [du]at hl
   by_cases hc:a.off+n<=sz
   . simp only [hc,decide_true,cond_true]at hl
     obtain⟨h1,h2⟩:=Tr.slice_spec hl
     refine⟨h1,(List.range n).map (fun j=>cs.getD (base+(a.off+j)) default),?_,?_⟩
     . refine⟨by simp [h1],fun i v v' hv hv'=>?_⟩
       have hi:i<n:=by rw [<-h1];exact(List.getElem?_eq_some_iff.1 hv).1
       have:=h2 i hi
       rw [hv]at this
       obtain⟨u,hu,hr⟩:=cr.get _ _ this
       simp [hi]at hv'
       rw [<-hv',hu];exact hr
     . intro j v' hv'
       have hj:j<n:=by
        have:=(List.getElem?_eq_some_iff.1 hv').1;simpa using this
       simp [hj]at hv'
       obtain⟨v,hv⟩:=Tr.get_some cr.sized (show a.off+j<sz by omega)
       obtain⟨u,hu,_⟩:=cr.get _ _ hv
       rw [hu]at hv'
       rw [kw _ _ rfl]
       simp only [World.cell?,ho]
       rw [show base+a.off+j=base+(a.off+j) by omega]
       simp [hu,<-hv']
   . simp [hc]at hl

theorem oZ {mu:Mu} {h h':Hp} {w:World} (hh:aF mu h w) {a a':Addr} (har:dC mu a a') {l l':List Value} (hl:h.store a.block a.off l=some h') (hr:VL mu l l'):
 ∃w',(storeCells a' l').run P w=.ok () w'/\aF mu h' w'/\Ext mu h w mu h' w':=by
 unfold Hp.store at hl
 cases hg:h.get a.block with
 |none=>simp [hg]at hl
 | some x =>
   simp only [hg]at hl
   cases x<;>simp only []at hl<;>try (cases hl;done)
   rename_i t sz el md
   obtain⟨c,base,top,o,hm,rfl,ho,hb⟩:=ptr_at hh har hg (by intro e;cases e)
   obtain⟨cs,el',fz,rfl,cr⟩:=hb
   rw [du,cw]at hl
   by_cases hc:a.off+l.length<=sz/\md≠0/\l.all iK=true
   . obtain⟨hc1,hc2,hc3⟩:=hc
     simp only [hc1,hc2,hc3,decide_true,decide_false,yk,yf,cond_true]at hl
     cases hl
     have hlen:=hr.1
     have hfits:=cr.fits
     have hwhole:=cr.whole
     obtain⟨cs2,ws,e2⟩:=setCells_at c l' (base+a.off) w cs el' fz ho
     have hone: ∀v∈l',v.oneCell'=true:=by
      intro v hv
      obtain⟨i,hi⟩:=List.mem_iff_getElem?.1 hv
      have hi':i<l.length:=by rw [hlen];exact(List.getElem?_eq_some_iff.1 hi).1
      have:=hr.2 i _ v (yp hi') hi
      refine this.flat ?_
      simp only [yg]at hc3
      exact hc3 _ (List.getElem_mem hi')
     have hrun:=run_storeCells_cells (P:=P) c (base+a.off) l' 0 w (fun j hj=>by
      simp only [World.cell?,ho]
      simp
      omega) (fun j hj=>by
      simp only [World.frozen?,ho]
      have:=cr.free hc2 (base+a.off+0+j) (by omega)
      simp only [yt,decide_eq_false_iff_not]
      by_cases hx:fz.1<=base+a.off+0+j
      . right;exact fun hy=>this ⟨hx,hy⟩
      . left;exact hx) hone
     rw [Nat.add_zero]at hrun
     refine⟨_,hrun,?_⟩
     refine qv hh hm ?_ ws ?_
     . intro t' sz' el'' e;rw [hg]at e;cases e;exact hc2 rfl
     . refine⟨cs2,el',fz,rfl,?_,hfits,Tr.sized_setAll _ _ cr.sized,?_,?_⟩
       . have:cs2.toList.length=cs.toList.length:=by rw [e2,mO]
         simpa [hwhole]using this
       . intro i v hv
         rw [Tr.get_setAll _ _ _ _ cr.sized hc1]at hv
         rw [<-xW,e2,ue _ _ _ _ (show base+a.off+l'.length<=cs.toList.length by have:cs.toList.length=cs.size:=rfl;omega)]
         by_cases hin:a.off<=i/\i<a.off+l.length
         . rw [if_pos hin]at hv
           rw [if_pos (by omega),show base+i-(base+a.off)=i-a.off by omega]
           exact hr.get hv
         . rw [if_neg hin]at hv
           rw [if_neg (by omega),xW]
           exact cr.get _ _ hv
       . intro _ i hi
         have:cs2.size=cs.size:=by
          have:cs2.toList.length=cs.toList.length:=by rw [e2,mO]
          simpa using this
         exact cr.free hc2 i (by omega)
   . have:(decide (a.off+l.length<=sz)&& !decide (md=0)&&l.all iK)=false:=by
      rw [<-yc];simpa [and_assoc]using hc
     rw [this]at hl;simp at hl

theorem lO{mu:Mu}{h:Hp}{w w':World}(hh:aF mu h w){l:List Value}{l':Array Value}{el el':TypeId}(hr:VL mu l l'.toList)(hw:WNew w w' (.cells l' el')){t:Tr Value}(ht:t.Sized l.length)(hg: ∀i,t.get i=l[i]?):
 aF (upd mu h.n (.blk w.heap.size 0 l'.size)) (h.new (.cells t l.length el 1)) w'/\Ext mu h w (upd mu h.n (.blk w.heap.size 0 l'.size)) (h.new (.cells t l.length el 1)) w':=by
 refine kc hh hw ⟨l',el',(0,0),rfl,rfl,?_,ht,?_,?_⟩
 . have:=hr.1;simp at this;omega
 . intro i v hv
   rw [hg]at hv
   obtain⟨v',h1,h2⟩:=hr.get hv
   exact⟨v',by rw [yq,<-xW];exact h1,h2⟩
 . intro _ i _ hx;omega
theorem sd(mu:Mu)(b c base top:Nat):dC (upd mu b (.blk c base top)) ⟨b,0,none⟩ ⟨c,base,none⟩:=by
 unfold dC;rw [upd_same];simp
end
end Go.Ab

namespace Go.Ab
section
variable{E:Env}{P:Program}(ok:EOk E P)

theorem mH{a b:Value}(h:cQ a b=some true): ∀n,Instr.sameBits n a b=true:=by
 intro n
 unfold cQ at h
 cases a<;>(try (simp at h;done))<;>cases b<;>(try (simp at h;done))
 . rename_i x y
   cases x<;>cases y<;>simp at h<;>(cases n<;>rfl)
 . rename_i k x k' y
   simp only []at h
   rw [iv,gP]at h
   by_cases hk:k=k'
   . subst hk;simp at h;subst h;cases n<;>simp [Instr.sameBits]
   . simp [hk]at h
 . rename_i s u
   simp only []at h
   rw [ik]at h
   simp at h
   have:s=u:=by cases s;cases u;simp [aE]at h;simp [h]
   subst this
   have hb:(s==s)=true:=by show(s.data==s.data)=true;simp
   cases n<;>simp [Instr.sameBits,hb]
theorem rF{a b:Value}(t:Bool)(h:cQ a b=some t):cQ b a=some t:=by
 unfold cQ at*
 cases a<;>(try (simp at h;done))<;>cases b<;>(try (simp at h;done))
 . rename_i x y;cases x<;>cases y<;>simp at h⊢ <;>exact h
 . rename_i k x k' y
   simp only []at h⊢
   rw [iv,gP]at*
   by_cases hk:k=k'
   . subst hk;simp at h⊢;rw [<-h];exact Bool.beq_comm ..
   . simp [hk]at h
 . simp only []at h⊢
   rw [ik]at*
   rw [<-h];congr 1;exact Bool.beq_comm ..

theorem qC{kt:TypeId}{k k':Value}{d:TypeDesc}{t:Bool}(hu:E.und kt=some d)(hf:cu E kt k=true)(h:cQ k k'=some t):Instr.sameNow d k k'=some t:=by
 unfold cu at hf
 simp only [hu]at hf
 unfold cQ at h
 cases d<;>simp only []at hf<;>try (cases hf;done)
 . cases k<;>simp only []at hf<;>try (cases hf;done)
   cases k'<;>simp only []at h<;>try (cases h;done)
   rename_i a b;cases h;cases a<;>cases b<;>rfl
 . cases k<;>simp only []at hf<;>try (cases hf;done)
   cases k'<;>simp only []at h<;>try (cases h;done)
   rename_i k1 a k2 b
   rw [iv,gP]at h
   by_cases hk:k1=k2
   . subst hk;simp at h;simp [Instr.sameNow,h]
   . simp [hk]at h
 . cases k<;>simp only []at hf<;>try (cases hf;done)
   cases k'<;>simp only []at h<;>try (cases h;done)
   rename_i a b
   rw [ik]at h
   cases h
   simp only [Instr.sameNow]
   congr 1
   rw [show(a==b)=(a.data==b.data)from rfl,<-Array.beq_toList];rfl

include ok in
theorem gX{kt:TypeId}{k:Value}(hf:cu E kt k=true)(b:Bool)(w:World):(Instr.checkKey b 10000 kt k).run P w=.ok () w:=by
 unfold cu at hf
 cases hu:E.und kt with
 |none=>simp [hu]at hf
 | some d=>
   simp only [hu]at hf
   show((Instr.checkKey b (9999+1) kt k)).run P w=_
   unfold Instr.checkKey
   simp only [Sem.run_bind,aM ok hu,Result.andThen_ok]
   cases d<;>simp only []at hf<;>try (cases hf;done)
   all_goals (cases k<;>simp only []at hf<;>(try (cases hf;done))<;>rfl)

theorem jN{mu:Mu}{kt:TypeId}{k:Value}{d:TypeDesc}(hu:E.und kt=some d)(hf:cu E kt k=true){es:List (Value×Value×Nat)}{es':List MapEntry}(hm:MRel mu es es')
 (h:cB k es=some none) (i:Nat):Instr.findNow d k es' i=some none:=by
 induction es generalizing es' i with
 |nil=>rw [hm.nil_left];rfl
 | cons e es ih=>
   obtain⟨e',r,rfl,h1,h2⟩:=LR.cons_left hm
   obtain⟨a,b,n⟩:=e
   simp only [cB]at h
   cases hk:cQ k a with
   |none=>simp [hk]at h
   | some t=>
     cases t with
     |true=>simp [hk]at h
     | false=>
       simp only [hk]at h
       have:=qC hu hf hk
       simp only []at h1
       simp only [Instr.findNow,h1.1,this]
       exact ih h2 h _
theorem jU {mu:Mu} {kt:TypeId} {k:Value} {d:TypeDesc} (hu:E.und kt=some d) (hf:cu E kt k=true) {es:List (Value×Value×Nat)} {es':List MapEntry} (hm:MRel mu es es')
 {v:Value} {n:Nat} (h:cB k es=some (some (v,n))) (i:Nat):
 ∃ j e',es'[j]? =some e'/\Instr.findNow d k es' i=some (some (i+j,e'.val))/\ao mu v e'.val/\e'.born=n/\cQ k e'.key=some true/\
   (∀v2 v2',ao mu v2 v2'->MRel mu (jW k v2 es) (es'.set j {e' with key:=k,val:=v2'}))/\MRel mu (jk k es) (es'.eraseIdx j):=by
 induction es generalizing es' i with
 |nil=>simp [cB]at h
 | cons e es ih=>
   obtain⟨e',r,rfl,h1,h2⟩:=LR.cons_left hm
   obtain⟨a,b,m⟩:=e
   simp only [cB]at h
   simp only []at h1
   cases hk:cQ k a with
   |none=>simp [hk]at h
   | some t=>
     have hs:=qC hu hf hk
     cases t with
     | true=>
       simp only [hk]at h
       cases h
       have hok:okKey k=true:=by
        unfold cu at hf;rw [hu]at hf
        cases d<;>simp only []at hf<;>(try (cases hf;done))<;>(cases k<;>simp only []at hf<;>(try (cases hf;done))<;>rfl)
       refine⟨0,e',rfl,by simp [Instr.findNow,h1.1,hs],h1.2.2.1,h1.2.2.2,by rw [h1.1];exact hk,?_,?_⟩
       . intro v2 v2' hv
         simp only [jW,hk,List.set_cons_zero]
         exact LR.cons ⟨rfl,hok,hv,h1.2.2.2⟩ h2
       . simp only [jk,hk,List.eraseIdx_zero];exact h2
     | false=>
       simp only [hk]at h
       obtain⟨j,e2,g1,g2,g3,g4,g5,g6,g7⟩:=ih h2 h (i+1)
       refine⟨j+1,e2,by simpa using g1,?_,g3,g4,g5,?_,?_⟩
       . simp only [Instr.findNow,h1.1,hs,g2];rw [show i+1+j=i+(j+1) by omega]
       . intro v2 v2' hv
         simp only [jW,hk,List.set_cons_succ]
         exact LR.cons h1 (g6 v2 v2' hv)
       . simp only [jk,hk,List.eraseIdx_cons_succ]
         exact LR.cons h1 g7
theorem xM{mu:Mu}{n:Nat}{v v':Value}(hv:ao mu v v'){es es2:List (Value×Value×Nat)}{es':List MapEntry}(hm:MRel mu es es')(h:gb n v es=some es2):
 ∃j e',es'.findIdx? (fun e=>(e.born:Int)==(n:Int))=some j/\es'[j]? =some e'/\MRel mu es2 (es'.set j {e' with val:=v'}):=by
 induction es generalizing es' es2 with
 |nil=>simp [gb]at h
 | cons e es ih=>
   obtain⟨e',r,rfl,h1,h2⟩:=LR.cons_left hm
   obtain⟨a,b,m⟩:=e
   simp only [gb,cw]at h
   simp only []at h1
   by_cases hmn:m=n
   . subst hmn
     simp only [decide_true,cond_true]at h
     cases h
     refine⟨0,e',?_,rfl,?_⟩
     . simp [List.findIdx?_cons,h1.2.2.2]
     . exact LR.cons ⟨h1.1,h1.2.1,hv,h1.2.2.2⟩ h2
   . simp only [hmn,decide_false,cond_false]at h
     cases hs:gb n v es with
     |none=>simp [hs]at h
     | some l=>
       simp only [hs]at h
       cases h
       obtain⟨j,e2,g1,g2,g3⟩:=ih h2 hs
       refine⟨j+1,e2,?_,by simpa using g2,?_⟩
       . have:((e'.born:Int)==(n:Int))=false:=by rw [h1.2.2.2];simp;omega
         simp [List.findIdx?_cons,this,g1]
       . simp only [List.set_cons_succ];exact LR.cons h1 g3
end
end Go.Ab

namespace Go.Ab

def jR(mu:Mu)(d d':Deferred):Prop:=match d.target with
 | .fn (.func f) cap=> ∃cap',d'.target=.fn (.func f) cap'/\VL mu cap.toList cap'.toList/\VL mu d.args.toList d'.args.toList
 | .collected b=> ∃c,d'.target=.collected c/\cV mu b c
 |_=>False

theorem nu{α:Type}{l:List α}{j:Nat}{e:α}(h:l[j]? =some e)(f:α->α):l.modify j f=l.set j (f e):=by
 apply List.ext_getElem?
 intro i
 rw [List.getElem?_modify,List.getElem?_set]
 by_cases hij:j=i
 . subst hij
   rw [if_pos rfl,if_pos (List.getElem?_eq_some_iff.1 h).1,h];simp
 . simp [hij]

section
variable{E:Env}{P:Program}(ok:EOk E P)

def Res(P:Program)(mu:Mu)(h:Hp)(w:World)(s:Sem Next)(h':Hp):cR->Prop
 | .val v=> ∃v' mu' w',s.run P w=.ok (.value v') w'/\aF mu' h' w'/\Ext mu h w mu' h' w'/\ao mu' v v'
 | .skip=> ∃mu' w',s.run P w=.ok .skip w'/\aF mu' h' w'/\Ext mu h w mu' h' w'
 | .call f args=>h'=h/\ ∃args',s.run P w=(callFunc f args').run P w/\VL mu args args'.toList
 | .yield b args=>h'=h/\ ∃c args',s.run P w=(Instr.yield c args').run P w/\cV mu b c/\VL mu args args'.toList
 | .recov=>h'=h/\s.run P w=.ok .recover w
 | .defer d=>h'=h/\ ∃d',s.run P w=.ok (.defer d') w/\jR mu d d'
 | .panic v=>h'=h/\ ∃v',s.run P w=.halt (.panic v') w/\ao mu v v'

theorem ur{w:World}{r:Nat}{o:Obj}(h: ∃q,w.heap[r]? =some q):WSet w {w with heap:=w.heap.setIfInBounds r o} r o:=by
 obtain⟨q,hq⟩:=h
 have hr:r<w.heap.size:=(Array.getElem?_eq_some_iff.1 hq).1
 refine⟨by simp,by simp [hr],fun j hj=>?_,rfl,rfl,rfl⟩
 show(w.heap.setIfInBounds r o)[j]? =_
 rw [Array.getElem?_setIfInBounds];rw [if_neg (Ne.symm hj)]

theorem rf{mu:Mu}{h:Hp}{w:World}(hh:aF mu h w){b c:Nat}(hp:cV mu b c){es:List (Value×Value×Nat)}{clock:Nat}(hg:h.get b=some (.map es clock)):
 ∃top es',mu b=.blk c 0 top/\w.heap[c]? =some (.map es' clock)/\MRel mu es es'.toList:=by
 unfold cV at hp
 cases hm:mu b with
 |none=>rw [hm]at hp;exact hp.elim
 |dead=>have:=hh.dead _ hm;rw [hg]at this;cases this
 | blk c' base top=>
   rw [hm]at hp
   obtain⟨rfl,rfl⟩:=hp
   obtain⟨y,o,h1,h2,h3⟩:=hh.blk _ c 0 top hm
   rw [hg]at h1;cases h1
   obtain⟨_,es',rfl,h4⟩:=h3
   exact⟨top,es',rfl,h2,h4⟩
theorem ku{mu:Mu}{h:Hp}{w:World}(hh:aF mu h w){b c top:Nat}{es es2:List (Value×Value×Nat)}{clock clock2:Nat}(hg:h.get b=some (.map es clock))(hm:mu b=.blk c 0 top)
 {es' es2':Array MapEntry} (hw:w.heap[c]? =some (.map es' clock)) (hr:MRel mu es2 es2'.toList):
 (setObj c (.map es2' clock2)).run P w=.ok () {w with heap:=w.heap.setIfInBounds c (.map es2' clock2)}/\
 aF mu (h.put b (.map es2 clock2)) {w with heap:=w.heap.setIfInBounds c (.map es2' clock2)}/\Ext mu h w mu (h.put b (.map es2 clock2)) {w with heap:=w.heap.setIfInBounds c (.map es2' clock2)}:=by
 refine⟨by simp [setObj,Sem.run,hw],?_⟩
 exact qv hh hm (by intro t sz el e;rw [hg]at e;cases e) (ur ⟨_,hw⟩) ⟨rfl,es2',rfl,hr⟩
theorem h9{w:World}{c:Nat}{es:Array MapEntry}{clock:Nat}(hw:w.heap[c]? =some (.map es clock)):(getObj c).run P w=.ok (.map es clock) w:=by
 simp [getObj,Sem.run,hw]

include ok
theorem su{mu:Mu}{h:Hp}{w:World}(hh:aF mu h w){t:TypeId}{x x' v:Value}(hl:dP E h t x=some v)(hx:ao mu x x'):
 ∃v',(Instr.loadAt t x').run P w=.ok v' w/\ao mu v v':=by
 unfold dP at hl
 cases hx<;>(try simp only []at hl)<;>try (cases hl;done)
 rename_i a a' har
 unfold Instr.loadAt
 simp only [Instr.sureAddr,Sem.run_bind,Sem.run_pure,Result.andThen_ok]
 unfold loadVar
 cases ha:E.agg t with
 |none=>simp [ha]at hl
 | some b=>
   simp only [Sem.run_bind,se ok ha,Result.andThen_ok]
   cases b with
   | true=>
     simp only [ha]at hl
     cases hs:E.sz t with
     |none=>simp [hs]at hl
     | some n=>
       simp only [hs]at hl
       cases hld:h.load a.block a.off n with
       |none=>simp [hld]at hl
       | some l=>
         simp only [hld]at hl
         cases hl
         obtain⟨h1,l',h2,h3⟩:=qk hh har hld
         have:=run_loadCells_list (P:=P) w a' l' h3
         have hn:l'.length=n:=by rw [<-h2.1];exact h1
         rw [hn]at this
         exact⟨.agg l'.toArray,by simp [dL ok hs,this],.agg h2.1 h2.2⟩
   | false=>
     simp only [ha]at hl
     cases hld:h.load a.block a.off 1 with
     |none=>simp [hld]at hl
     | some l=>
       simp only [hld]at hl
       obtain⟨h1,l',h2,h3⟩:=qk hh har hld
       match l,h1 with
       | [u],_=>
         simp only []at hl
         cases hl
         obtain⟨u',r,rfl,g1,g2⟩:=h2.cons_left
         have:=h3 0 u' (by simp)
         rw [show a'.add 0=a' by simp [Addr.add]]at this
         exact⟨u',by simp [this],g1⟩
theorem xa{mu:Mu}{h h':Hp}{w:World}(hh:aF mu h w){t:TypeId}{x x' v v':Value}(hl:gc E h t x v=some h')(hx:ao mu x x')(hv:ao mu v v'):
 ∃w',(Instr.storeAt t x' v').run P w=.ok () w'/\aF mu h' w'/\Ext mu h w mu h' w':=by
 unfold gc at hl
 cases hx<;>(try simp only []at hl)<;>try (cases hl;done)
 rename_i a a' har
 cases hs:E.sz t with
 |none=>simp [hs]at hl
 | some n=>
   simp only [hs]at hl
   have hne: ∀y,v≠ .chan y:=by intro y e;subst e;simp at hl
   have hl':(bif xX (ag v).length n then h.store a.block a.off (ag v)else none)=some h':=by
    cases v<;>first|exact hl|exact absurd rfl (hne _)
   rw [cw]at hl'
   by_cases hc:(ag v).length=n
   . simp only [hc,decide_true,cond_true]at hl'
     have hvc:=hv.cells hne
     obtain⟨w',g1,g2,g3⟩:=oZ (P:=P) hh har hl' hvc
     refine⟨w',?_,g2,g3⟩
     have hsz:v'.cells.size=n:=by rw [<-hc];exact hvc.1.symm
     simp [Instr.storeAt,Instr.sureAddr,storeVar,dL ok hs,hsz,g1]
   . simp [hc]at hl'

theorem wJ {mu:Mu} {h:Hp} {w:World} (hh:aF mu h w) {t:TypeId} {m m' k k' v:Value} {q:Bool} (hl:dA E h t m k q=some v) (hm:ao mu m m') (hk:ao mu k k'):
 ∃v',(Instr.lookup t m' k' q).run P w=.ok v' w/\ao mu v v':=by
 unfold dA at hl
 cases hu:E.und t with
 |none=>simp [hu]at hl
 | some d=>
   simp only [hu]at hl
   cases d<;>simp only []at hl<;>try (cases hl;done)
   rename_i kt el
   cases hf:cu E kt k with
   |false=>simp [hf]at hl
   | true=>
     simp only [hf,cond_true]at hl
     have hkk:k'=k:=by
      unfold cu at hf
      cases hku:E.und kt with
      |none=>simp [hku]at hf
      | some kd=>
        simp only [hku]at hf
        cases kd<;>simp only []at hf<;>(try (cases hf;done))<;>(cases hk<;>simp only []at hf<;>(try (cases hf;done))<;>rfl)
     subst hkk
     have two: ∀{z y:Value},ao mu z y-> ∀b,ao mu (bif q then .tuple #[z,.bool b]else z) (if q then .tuple #[y,.bool b]else y):=by
      intro z y hz b
      cases q with
      |false=>exact hz
      | true=>
        have:VL mu [z,.bool b] [y,.bool b]:=LR.cons hz (LR.cons (.bool b) LR.nil)
        exact .tuple this.1 this.2
     obtain⟨kd,hku⟩: ∃kd,E.und kt=some kd:=by
      unfold cu at hf
      cases hku:E.und kt with
      |none=>simp [hku]at hf
      |some kd=>exact⟨kd,rfl⟩
     have fin0:(match E.zeroV el with|none=>none|some z=>some (bif q then .tuple #[z,.bool false]else z))=some v->
      ∃z,(zeroValue el).run P w=.ok z w/\ao mu v (if q then .tuple #[z,.bool false]else z):=by
      intro hz
      cases hz0:E.zeroV el with
      |none=>simp [hz0]at hz
      | some z=>
        simp only [hz0]at hz
        cases hz
        obtain⟨z1,z2⟩:=mm ok hz0 w mu
        exact⟨z,z1,two z2 false⟩
     unfold Instr.lookup
     simp only [Sem.run_bind,aM ok hu,Result.andThen_ok]
     cases hm<;>(try simp only []at hl)<;>try (cases hl;done)
     . obtain⟨z,g1,g2⟩:=fin0 hl
       refine⟨_,?_,g2⟩
       simp [gX ok hf,Instr.findKey,aM ok hku,Instr.findNow,g1]
     . rename_i b c hp
       cases hg:h.get b with
       |none=>simp [hg]at hl
       | some x=>
         simp only [hg]at hl
         cases x<;>simp only []at hl<;>try (cases hl;done)
         rename_i es clock
         obtain⟨top,es',h1,h2,h3⟩:=rf hh hp hg
         cases hfd:cB k' es with
         |none=>simp [hfd]at hl
         | some r=>
           cases r with
           | none=>
             simp only [hfd]at hl
             obtain⟨z,g1,g2⟩:=fin0 hl
             refine⟨_,?_,g2⟩
             simp [gX ok hf,h9 h2,Instr.findKey,aM ok hku,jN hku hf h3 hfd 0,g1]
           | some p=>
             obtain⟨u,n⟩:=p
             simp only [hfd]at hl
             cases hl
             obtain⟨j,e',f1,f2,f3,_⟩:=jU hku hf h3 hfd 0
             refine⟨_,?_,two f3 true⟩
             simp [gX ok hf,h9 h2,Instr.findKey,aM ok hku,f2]

omit ok in
theorem uu{mu:Mu}{kt:TypeId}{k k':Value}(hf:cu E kt k=true)(hk:ao mu k k'):k'=k/\okKey k=true/\ ∃kd,E.und kt=some kd:=by
 unfold cu at hf
 cases hku:E.und kt with
 |none=>simp [hku]at hf
 | some kd=>
   simp only [hku]at hf
   cases kd<;>simp only []at hf<;>(try (cases hf;done))<;>(cases hk<;>simp only []at hf<;>(try (cases hf;done))<;>exact⟨rfl,rfl,_,rfl⟩)

omit ok in
theorem o6{mu:Mu}{h:Hp}{w:World}(hh:aF mu h w){t:TypeId}{m m' k k':Value}{r clock:Nat}{es:List (Value×Value×Nat)}{el:TypeId}(hl:jc E h t m k=some (r,es,clock,el))
 (hm:ao mu m m') (hk:ao mu k k'): ∃kt kd c top es',E.und t=some (.map kt el)/\E.und kt=some kd/\cu E kt k=true/\k'=k/\okKey k=true/\m'=.map (some c)/\h.get r=some (.map es clock)/\
  mu r=.blk c 0 top/\w.heap[c]? =some (.map es' clock)/\MRel mu es es'.toList:=by
 unfold jc at hl
 cases hu:E.und t with
 |none=>simp [hu]at hl
 | some d=>
   simp only [hu]at hl
   cases d<;>simp only []at hl<;>try (cases hl;done)
   rename_i kt el2
   cases hf:cu E kt k with
   |false=>simp [hf]at hl
   | true=>
     simp only [hf,cond_true]at hl
     obtain⟨h1,h2,kd,h3⟩:=uu (E:=E) hf hk
     cases hm<;>(try simp only []at hl)<;>try (cases hl;done)
     rename_i b c hp
     cases hg:h.get b with
     |none=>simp [hg]at hl
     | some x=>
       simp only [hg]at hl
       cases x<;>simp only []at hl<;>try (cases hl;done)
       cases hl
       obtain⟨top,es',g1,g2,g3⟩:=rf hh hp hg
       exact⟨kt,kd,c,top,es',rfl,h3,hf,h1,h2,rfl,hg,g1,g2,g3⟩

theorem qD {mu:Mu} {h h':Hp} {w:World} (hh:aF mu h w) {t:TypeId} {m m' k k' v v':Value} (hl:iV E h t m k v=some h') (hm:ao mu m m') (hk:ao mu k k') (hv:ao mu v v'):
 ∃w',(Instr.mapUpdate t m' k' v').run P w=.ok () w'/\aF mu h' w'/\Ext mu h w mu h' w':=by
 unfold iV at hl
 cases ha:jc E h t m k with
 |none=>simp [ha]at hl
 | some q=>
   obtain⟨r,es,clock,el⟩:=q
   simp only [ha]at hl
   obtain⟨kt,kd,c,top,es',e1,e2,e3,rfl,e5,rfl,e7,e8,e9,e10⟩:=o6 hh ha hm hk
   unfold Instr.mapUpdate
   simp only [Sem.run_bind,aM ok e1,Result.andThen_ok,h9 e9,gX ok e3]
   cases hfd:cB k' es with
   |none=>simp [hfd]at hl
   | some p=>
     cases p with
     | none=>
       simp only [hfd]at hl
       cases hl
       have hfn:=jN e2 e3 e10 hfd 0
       obtain⟨g1,g2,g3⟩:=ku (P:=P) hh e7 e8 e9 (es2:=es++[(k',v,clock)]) (es2':=es'.push {key:=k',val:=v',born:=clock}) (clock2:=clock+1) (by
        simp only [Array.toList_push]
        exact LR.append e10 (LR.cons ⟨rfl,e5,hv,rfl⟩ LR.nil))
       exact⟨_,by simp [Instr.findKey,aM ok e2,hfn,g1],g2,g3⟩
     | some u=>
       obtain⟨u,n⟩:=u
       simp only [hfd]at hl
       cases hl
       obtain⟨j,e',f1,f2,f3,f4,f5,f6,f7⟩:=jU e2 e3 e10 hfd 0
       have hj:es'[j]? =some e':=by rw [<-xW];exact f1
       have hst:(Instr.keyThatStays e'.key k').run P w=.ok k' w:=by
        simp [Instr.keyThatStays,mH (rF true f5)]
       obtain⟨g1,g2,g3⟩:=ku (P:=P) hh e7 e8 e9 (es2:=jW k' v es) (es2':=es'.modify j fun e=>{e with key:=k',val:=v'}) (clock2:=clock) (by
        have:(es'.modify j fun e=>{e with key:=k',val:=v'}).toList=es'.toList.set j {e' with key:=k',val:=v'}:=by
         rw [yj]
         exact nu f1 _
        rw [this];exact f6 v v' hv)
       refine⟨_,?_,g2,g3⟩
       simp [Instr.findKey,aM ok e2,f2,hj,hst,g1]
end
end Go.Ab

namespace Go.Ab
section
variable{E:Env}{P:Program}(ok:EOk E P)
include ok

theorem xt {mu:Mu} {h h':Hp} {w:World} (hh:aF mu h w) {t ty:TypeId} {ts:Array TypeId} {xs:Array Value} {m m' k k':Value} (ht:ts[0]? =some t) (hx0:xs[0]? =some m') (hx1:xs[1]? =some k')
 (hl:jX E h t m k=some h') (hm:ao mu m m') (hk:ao mu k k'):
 ∃w',(Builtin.delete_ ts ty xs).run P w=.ok (.tuple #[]) w'/\aF mu h' w'/\Ext mu h w mu h' w':=by
 unfold jX at hl
 cases ha:jc E h t m k with
 |none=>simp [ha]at hl
 | some q=>
   obtain⟨r,es,clock,el⟩:=q
   simp only [ha]at hl
   obtain⟨kt,kd,c,top,es',e1,e2,e3,rfl,e5,rfl,e7,e8,e9,e10⟩:=o6 hh ha hm hk
   unfold Builtin.delete_
   simp only [ht,hx0,hx1,Sem.run_bind,aM ok e1,Result.andThen_ok,h9 e9,gX ok e3]
   cases hfd:cB k' es with
   |none=>simp [hfd]at hl
   | some p=>
     simp only [hfd]at hl
     cases hl
     cases p with
     | none=>
       have hfn:=jN e2 e3 e10 hfd 0
       have hdel:jk k' es=es:=by
        have : ∀l:List (Value×Value×Nat),cB k' l=some none->jk k' l=l:=by
         intro l
         induction l with
         |nil=>intro _;rfl
         | cons x l ih=>
           obtain⟨a,b,n⟩:=x
           intro hx
           simp only [cB]at hx
           simp only [jk]
           cases hq:cQ k' a with
           |none=>simp [hq]at hx
           | some b=>cases b with
             |true=>simp [hq]at hx
             |false=>simp only [hq]at hx⊢;rw [ih hx]
        exact this es hfd
       obtain⟨g1,g2,g3⟩:=ku (P:=P) hh e7 e8 e9 (es2:=jk k' es) (es2':=es') (clock2:=clock) (by rw [hdel];exact e10)
       exact⟨_,by simp [Instr.findKey,aM ok e2,hfn,g1],g2,g3⟩
     | some u=>
       obtain⟨u,n⟩:=u
       obtain⟨j,e',f1,f2,f3,f4,f5,f6,f7⟩:=jU e2 e3 e10 hfd 0
       obtain⟨g1,g2,g3⟩:=ku (P:=P) hh e7 e8 e9 (es2:=jk k' es) (es2':=es'.eraseIdxIfInBounds j) (clock2:=clock) (by
        have:(es'.eraseIdxIfInBounds j).toList=es'.toList.eraseIdx j:=by
         unfold Array.eraseIdxIfInBounds
         have hj:j<es'.size:=by have:=(List.getElem?_eq_some_iff.1 f1).1;simpa using this
         rw [dif_pos hj];simp
        rw [this];exact f7)
       exact⟨_,by simp [Instr.findKey,aM ok e2,f2,g1],g2,g3⟩

theorem xd {mu:Mu} {h h':Hp} {w:World} (hh:aF mu h w) {t:TypeId} {m m' k k' v:Value} (hl:iq E h t m k=some (h',v)) (hm:ao mu m m') (hk:ao mu k k'):
 ∃v' w',(Instr.mapEntry t m' k').run P w=.ok v' w'/\aF mu h' w'/\Ext mu h w mu h' w'/\ao mu v v':=by
 have two: ∀{z y:Value},ao mu z y-> ∀n:Nat,ao mu (.tuple #[z,.int .i64 (.ofNat n)]) (.tuple #[y,goInt (n:Int)]):=by
  intro z y hz n
  have:VL mu [z,.int .i64 (.ofNat n)] [y,goInt (n:Int)]:=LR.cons hz (LR.cons (.int _ _) LR.nil)
  exact .tuple this.1 this.2
 unfold iq at hl
 cases ha:jc E h t m k with
 |none=>simp [ha]at hl
 | some q =>
   obtain⟨r,es,clock,el⟩:=q
   simp only [ha]at hl
   obtain⟨kt,kd,c,top,es',e1,e2,e3,rfl,e5,rfl,e7,e8,e9,e10⟩:=o6 hh ha hm hk
   unfold Instr.mapEntry
   simp only [Sem.run_bind,aM ok e1,Result.andThen_ok,h9 e9,gX ok e3]
   cases hfd:cB k' es with
   |none=>simp [hfd]at hl
   | some p=>
     cases p with
     | none=>
       simp only [hfd]at hl
       cases hz:E.zeroV el with
       |none=>simp [hz]at hl
       | some z=>
         simp only [hz]at hl
         cases hl
         obtain⟨z1,z2⟩:=mm ok hz w mu
         have hfn:=jN e2 e3 e10 hfd 0
         obtain⟨g1,g2,g3⟩:=ku (P:=P) hh e7 e8 e9 (es2:=es++[(k',z,clock)]) (es2':=es'.push {key:=k',val:=z,born:=clock}) (clock2:=clock+1) (by
          simp only [Array.toList_push]
          exact LR.append e10 (LR.cons ⟨rfl,e5,z2,rfl⟩ LR.nil))
         exact⟨_,_,by simp [Instr.findKey,aM ok e2,hfn,z1,g1],g2,g3,two z2 clock⟩
     | some u=>
       obtain⟨u,n⟩:=u
       simp only [hfd]at hl
       cases hl
       obtain⟨j,e',f1,f2,f3,f4,f5,f6,f7⟩:=jU e2 e3 e10 hfd 0
       have hj:es'[j]? =some e':=by rw [<-xW];exact f1
       have hst:(Instr.keyThatStays e'.key k').run P w=.ok k' w:=by
        simp [Instr.keyThatStays,mH (rF true f5)]
       obtain⟨g1,g2,g3⟩:=ku (P:=P) hh e7 e8 e9 (es2:=jW k' u es) (es2':=es'.modify j fun e=>{e with key:=k'}) (clock2:=clock) (by
        have:(es'.modify j fun e=>{e with key:=k'}).toList=es'.toList.set j {e' with key:=k'}:=by
         rw [yj];exact nu f1 _
        rw [this];exact f6 u e'.val f3)
       refine⟨_,_,by simp [Instr.findKey,aM ok e2,f2,hj,hst,g1];rfl,g2,g3,?_⟩
       rw [f4];exact two f3 n

omit ok in
theorem vh {mu:Mu} {h h':Hp} {w:World} (hh:aF mu h w) {t:TypeId} {m m' s s' v v':Value} (hl:jG h m s v=some h') (hm:ao mu m m') (hs:ao mu s s') (hv:ao mu v v'):
 ∃w',(Instr.entryStore t m' s' v').run P w=.ok () w'/\aF mu h' w'/\Ext mu h w mu h' w':=by
 unfold jG at hl
 cases hm<;>(try simp only []at hl)<;>try (cases hl;done)
 rename_i b c hp
 cases hg:h.get b with
 |none=>simp [hg]at hl
 | some x=>
   simp only [hg]at hl
   cases x<;>(try simp only []at hl)<;>try (cases hl;done)
   rename_i es clock
   obtain⟨top,es',e8,e9,e10⟩:=rf hh hp hg
   cases hs<;>(try simp only []at hl)<;>try (cases hl;done)
   rename_i k i
   cases hi:fT i with
   |none=>simp [hi]at hl
   | some n=>
     have:=mh hi
     subst this
     simp only [hi]at hl
     cases hst:gb n v es with
     |none=>simp [hst]at hl
     | some es2=>
       simp only [hst]at hl
       cases hl
       obtain⟨j,e',f1,f2,f3⟩:=xM hv e10 hst
       obtain⟨g1,g2,g3⟩:=ku (P:=P) hh hg e8 e9 (es2:=es2) (es2':=es'.modify j fun e=>{e with val:=v'}) (clock2:=clock) (by
        have:(es'.modify j fun e=>{e with val:=v'}).toList=es'.toList.set j {e' with val:=v'}:=by
         rw [yj];exact nu f2 _
        rw [this];exact f3)
       have hfi:es'.findIdx? (fun e=>(e.born:Int)==(n:Int))=some j:=by obtain⟨l⟩:=es';simpa using f1
       exact⟨_,by simp [Instr.entryStore,h9 e9,asInt,asIntOf,hfi,g1],g2,g3⟩

omit ok in
theorem ju(zs:List Value)(n:Nat):(aU zs n).length=n*zs.length:=by
 induction n with
 |zero=>simp [aU]
 |succ n ih=>simp [aU,ih,Nat.succ_mul];omega
omit ok in
theorem vk(zs:List Value)(n i:Nat)(h:i<n*zs.length):(aU zs n)[i]? =zs[i%zs.length]? :=by
 induction n generalizing i with
 |zero=>simp at h
 | succ n ih=>
   simp only [aU]
   by_cases hi:i<zs.length
   . rw [xY hi,Nat.mod_eq_of_lt hi]
   . rw [yd (by omega),ih _ (by rw [ym,Nat.one_mul]at h;omega)]
     rw [Nat.mod_eq_sub_mod (a:=i) (by omega)]
omit ok in
theorem sK{mu:Mu}{z:Value}{zs:List Value}(h1:z.cells.toList=zs)(h2:zs.all bZ=true)(c:Nat):
 VL mu (aU zs c) ((yn (c*zs.length)).map (z.cells[· %z.cells.size]!)).toList:=by
 have hsz:z.cells.size=zs.length:=by rw [<-h1];rfl
 refine⟨by simp [ju],fun i v v' hv hv'=>?_⟩
 have hi:i<c*zs.length:=by
  have:=(List.getElem?_eq_some_iff.1 hv).1
  rwa [ju]at this
 rw [vk _ _ _ hi]at hv
 have hpos:0<zs.length:=by
  rcases Nat.eq_zero_or_pos zs.length with h0|h0
  . rw [h0]at hi;simp at hi
  . exact h0
 have hm:i%zs.length<zs.length:=Nat.mod_lt _ hpos
 have e:v'=z.cells[i%zs.length]! :=by
  simp only [ya,List.getElem?_map,Array.toList_range]at hv'
  rw [List.getElem?_range hi]at hv'
  simp at hv'
  rw [<-hv',hsz]
 have e2:z.cells[i%zs.length]! =v:=by
  rw [getElem!_pos z.cells _ (by omega)]
  have:z.cells.toList[i%zs.length]? =some v:=by rw [h1];exact hv
  rw [List.getElem?_eq_some_iff]at this
  obtain⟨_,q⟩:=this
  rw [<-q];simp
 rw [e,e2]
 simp only [yg]at h2
 exact ao.const mu (h2 v (List.mem_of_getElem? hv))

omit ok in
theorem uP{mu:Mu}{v v':Value}{n:Nat}(h:natV v=some n)(hv:ao mu v v'): ∃k,v'=.int k (n:Int):=by
 unfold natV at h
 cases hv<;>(try simp only []at h)<;>try (cases h;done)
 rename_i k i
 exact⟨k,by rw [mh h]⟩
omit ok in
theorem wrap_small{n:Nat}(h:n<=70368744177664):IntKind.i64.wrap (n:Int)=n:=by
 rw [<-fU]
 show(bif Nat.blt n 9223372036854775808 then _ else _)=_
 rw [fV]
 have:n<9223372036854775808:=by omega
 simp [this]
omit ok in
theorem fo(w:World)(o:Obj):WNew w {w with heap:=w.heap.push o} o:=⟨rfl,rfl,rfl,rfl⟩
omit ok in
theorem th(mu:Mu)(b c top n cap cap' k:Nat)(h:n<=cap)(hc:cap<=cap')(hk:cap'*k<=top):ao (upd mu b (.blk c 0 top)) (.slice (some ⟨b,0,some k⟩) n cap) (.slice (some ⟨c,0,none⟩) n cap'):=by
 refine .slice h ?_
 unfold dh
 simp only [upd_same]
 exact⟨hc,trivial,trivial,by simpa using hk,by simp⟩
omit ok in
theorem lE(mu:Mu)(b c top n cap:Nat)(h:n<=cap):ao (upd mu b (.blk c 0 top)) (.slice (some ⟨b,0,none⟩) n cap) (.slice (some ⟨c,0,none⟩) n cap):=by
 refine .slice h ?_
 unfold dh
 simp only [upd_same]
 simp

theorem rY {mu : Mu} {h h':Hp} {w:World} (hh:aF mu h w) {t:TypeId} {l l' c c' v:Value} (hl:io E h t l c=some (h',v)) (hr:ao mu l l') (hc:ao mu c c'):
 ∃v' mu' w',(Instr.makeSlice t l' c').run P w=.ok v' w'/\aF mu' h' w'/\Ext mu h w mu' h' w'/\ao mu' v v':=by
 unfold io at hl
 cases hu:E.und t with
 |none=>simp [hu]at hl
 | some d=>
   simp only [hu]at hl
   cases d<;>(try simp only []at hl)<;>try (cases hl;done)
   rename_i e
   cases hn:natV l with
   |none=>simp [hn]at hl
   | some n =>
     cases hm:natV c with
     |none=>simp [hn,hm]at hl
     | some m=>
       obtain⟨k1,rfl⟩:=uP hn hr
       obtain⟨k2,rfl⟩:=uP hm hc
       simp only [hn,hm]at hl
       cases hi:E.ty e with
       |none=>simp [hi]at hl
       | some i =>
         simp only [hi,du]at hl
         by_cases hcond:n<=m/\m*(i.bytes+1)<=70368744177664
         . obtain ⟨h1,h2⟩:=hcond
           simp only [h1,h2,decide_true,yf,cond_true]at hl
           cases hz:E.zero e with
           |none=>simp [hz]at hl
           | some zs=>
             simp only [hz,cw]at hl
             by_cases hzl:zs.length=i.size
             . simp only [hzl,decide_true,cond_true]at hl
               obtain⟨z,z1,z2,z3,z4⟩:=kz ok hz w
               have hmb:m<=70368744177664:=by
                have:m*1<=m*(i.bytes+1):=Nat.mul_le_mul_left m (by omega)
                omega
               have hnb:n<=70368744177664:=by omega
               have hby: ¬((i.bytes:Int)*(m:Int)>2 ^48):=by
                have:i.bytes*m<=m*(i.bytes+1):=by rw [Nat.mul_comm,Nat.mul_add];omega
                have:((i.bytes*m:Nat):Int)<=70368744177664:=by omega
                rw [Int.natCast_mul]at this
                rw [show(2:Int) ^48=281474976710656 from rfl];omega
               have hsize:E.sz e=some i.size:=by unfold Env.sz;rw [hi]
               have hrel:=sK (mu:=mu) z2 z4 m
               obtain⟨cs,hcs⟩: ∃cs,cs=(yn (m*zs.length)).map (z.cells[· %z.cells.size]!):=⟨_,rfl⟩
               rw [<-hcs]at hrel
               have hrun:(Instr.makeSlice t (.int k1 n) (.int k2 m)).run P w=.ok (.slice (some ⟨w.heap.size,0,none⟩) n m) {w with heap:=w.heap.push (.cells cs e)}:=by
                unfold Instr.makeSlice
                simp only [Sem.run_bind,aM ok hu,Result.andThen_ok,asInt,asIntOf,Sem.run_pure,jZ ok hi,wrap_small hmb,wrap_small hnb]
                have c1:(decide ((m:Int)<0)||decide ((i.bytes:Int)*(m:Int)>2 ^48))=false:=by
                 rw [decide_eq_false hby,decide_eq_false (show¬((m:Int)<0) by omega)];rfl
                have c2:((decide ((m:Int)<0)||decide ((i.bytes:Int)*(m:Int)>2 ^48))||decide ((n:Int)<0)||decide ((n:Int)>(m:Int)))=false:=by
                 rw [c1];simp;omega
                rw [if_neg (by rw [c2];simp)]
                simp only [Sem.run_bind,run_askRoom,Result.andThen_ok,dL ok hsize,Int.toNat_natCast]
                by_cases hz0:m*i.size=0
                . have:cs=#[]:=by rw [hcs,hzl,hz0];simp
                  rw [if_pos hz0]
                  simp [newRow,hz0,this]
                  rw [show Array.map (fun _=>(default:Value)) (yn 0)=#[] by simp]
                . rw [if_neg hz0]
                  simp [z1,newRow,hcs,hzl]
               rw [hrun]
               have hsz2:cs.size=m*i.size:=by rw [hcs];simp [hzl]
               match zs,hl,hrel,hzl with
               | [],hl,hrel,hzl=>
                 cases hl
                 have hlen:(aU [] m).length=m*i.size:=by rw [ju,<-hzl]
                 obtain⟨g1,g2⟩:=lO (w':={w with heap:=w.heap.push (.cells cs e)}) hh (l:=aU [] m) (l':=cs) (el:=e) hrel (fo w _) (t:=Tr.ofList (aU [] m)) (Tr.sized_ofList _) (Tr.get_ofList _)
                 rw [hlen]at g1 g2
                 exact⟨_,_,_,rfl,g1,g2,lE mu h.n w.heap.size cs.size n m h1⟩
               | [z0],hl,hrel,hzl=>
                 cases hl
                 have hlen:(aU [z0] m).length=m:=by rw [ju];simp
                 obtain⟨g1,g2⟩:=lO (w':={w with heap:=w.heap.push (.cells cs e)}) hh (l:=aU [z0] m) (l':=cs) (el:=e) hrel (fo w _) (t:=Tr.blank z0 m m) (by rw [hlen];exact Tr.sized_blank z0 m m (xZ _)) (by
                  intro j
                  rw [Tr.get_blank z0 m m (xZ _)]
                  by_cases hj:j<m
                  . rw [if_pos hj,vk _ _ _ (by simpa using hj)];simp [Nat.mod_one]
                  . rw [if_neg hj,List.getElem?_eq_none (by omega)])
                 rw [hlen]at g1 g2
                 exact⟨_,_,_,rfl,g1,g2,lE mu h.n w.heap.size cs.size n m h1⟩
               | z0::z1::zr,hl,hrel,hzl=>
                 cases hl
                 have hlen:(aU (z0::z1::zr) m).length=m*i.size:=by rw [ju,<-hzl]
                 obtain⟨g1,g2⟩:=lO (w':={w with heap:=w.heap.push (.cells cs e)}) hh (l:=aU (z0::z1::zr) m) (l':=cs) (el:=e) hrel (fo w _) (t:=Tr.ofList (aU (z0::z1::zr) m)) (Tr.sized_ofList _) (Tr.get_ofList _)
                 rw [hlen]at g1 g2
                 exact⟨_,_,_,rfl,g1,g2,lE mu h.n w.heap.size cs.size n m h1⟩
             . simp [hzl]at hl
         . have:(decide (n<=m)&&decide (m*(i.bytes+1)<=70368744177664))=false:=by
            rw [<-yc];simpa using hcond
           rw [this]at hl;simp at hl

theorem rj {mu : Mu} {h h':Hp} {w:World} (hh:aF mu h w) {t:TypeId} {n:Nat} {parts parts':List (Nat×Value)} {v:Value} (hl:iz E h t n parts=some (h',v)) (hq:PL mu parts parts'):
 ∃v' mu' w',(Instr.buildSlice t n parts'.toArray).run P w=.ok v' w'/\aF mu' h' w'/\Ext mu h w mu' h' w'/\ao mu' v v':=by
 unfold iz at hl
 cases hu:E.und t with
 |none=>simp [hu]at hl
 | some d=>
   simp only [hu]at hl
   cases d<;>(try simp only []at hl)<;>try (cases hl;done)
   rename_i e
   cases hs:E.sz e with
   |none=>simp [hs]at hl
   | some k=>
     simp only [hs,du]at hl
     by_cases hb:n*k<=16777216
     . simp only [hb,decide_true,cond_true]at hl
       cases hz:E.zero e with
       |none=>simp [hz]at hl
       | some zs =>
         simp only [hz,cw]at hl
         by_cases hzl:zs.length=k
         . simp only [hzl,decide_true,cond_true]at hl
           cases hf:gK (fun i=>some (i*k,k)) (aU zs n) parts with
           |none=>simp [hf]at hl
           | some cs=>
             simp only [hf]at hl
             cases hl
             obtain⟨z,z1,z2,z3,z4⟩:=kz ok hz w
             have hrel:=sK (mu:=mu) z2 z4 n
             obtain⟨r',e1,e2⟩:=oQ (place':=fun i=>some (i*k,k)) (fun i r hr=>hr) hf hrel hq
             have hrun:(Instr.buildSlice t n parts'.toArray).run P w=.ok (.slice (some ⟨w.heap.size,0,none⟩) n n) {w with heap:=w.heap.push (.cells r' e)}:=by
              unfold Instr.buildSlice
              simp only [Sem.run_bind,aM ok hu,Result.andThen_ok,dL ok hs]
              rw [if_neg (by omega)]
              by_cases hz0:n*k=0
              . have e3: ∀q:Array Value,(yn (n*k)).map (q[· %q.size]!)=(yn (n*zs.length)).map (z.cells[· %z.cells.size]!):=by
                 intro q;rw [hzl,hz0];simp
                rw [if_pos hz0]
                simp only [Sem.run_bind,Sem.run_pure,Result.andThen_ok]
                rw [e3,e1]
                simp [newRow]
              . rw [if_neg hz0]
                simp only [Sem.run_bind,z1,Result.andThen_ok,Sem.run_pure]
                rw [show n*k=n*zs.length by rw [hzl],e1]
                simp [newRow]
             rw [hrun]
             obtain⟨g1,g2⟩:=lO (w':={w with heap:=w.heap.push (.cells r' e)}) hh (l:=cs) (l':=r') (el:=e) e2 (fo w _) (t:=Tr.ofList cs) (Tr.sized_ofList _) (Tr.get_ofList _)
             exact⟨_,_,_,rfl,g1,g2,lE mu h.n w.heap.size r'.size n n (xZ _)⟩
         . simp [hzl]at hl
     . simp [hb]at hl
end
end Go.Ab

namespace Go.Ab
section
variable{E:Env}{P:Program}(ok:EOk E P)

theorem wz{tr:Tr Value}{sz off m:Nat}{new:List Value}{t2:Tr Value}{s2:Nat}(hs:tr.Sized sz)(h:jv tr sz off m new=some (t2,s2)):
 off+m<=sz/\s2=m+new.length/\t2.Sized s2/\(∀i,i<m->t2.get i=tr.get (off+i))/\ ∀i,m<=i->t2.get i=new[i-m]? :=by
 unfold jv at h
 rw [cw,cw]at h
 by_cases hc:off=0/\m=sz
 . obtain⟨rfl,rfl⟩:=hc
   simp only [decide_true,yf,cond_true]at h
   cases h
   refine⟨by omega,rfl,Tr.sized_pushAll _ hs,fun i hi=>?_,fun i hi=>?_⟩
   . rw [Tr.get_pushAll _ _ _ hs,if_pos hi,yq]
   . rw [Tr.get_pushAll _ _ _ hs,if_neg (by omega)]
 . have:(decide (off=0)&&decide (m=sz))=false:=by
    rw [<-yc];simpa using hc
   rw [this,du]at h
   simp only [cond_false]at h
   by_cases hle:off+m<=sz
   . simp only [hle,decide_true,cond_true]at h
     cases hsl:tr.slice off m with
     |none=>simp [hsl]at h
     | some old=>
       simp only [hsl]at h
       cases h
       obtain⟨h1,h2⟩:=Tr.slice_spec hsl
       refine⟨hle,by rw [List.length_append,h1],Tr.sized_ofList _,fun i hi=>?_,fun i hi=>?_⟩
       . rw [Tr.get_ofList,xY (by omega),h2 i hi]
       . rw [Tr.get_ofList,yd (by omega),h1]
   . simp [hle]at h

theorem oo{mu:Mu}{a a':Addr}{cap cap':Nat}(hs:dh mu a cap a' cap')(hc:cap≠0):dC mu a a':=by
 unfold dh at hs
 unfold dC
 cases hmu:mu a.block with
 |none=>rw [hmu]at hs;exact hs.elim
 |dead=>trivial
 | blk c base top=>
   rw [hmu]at hs
   cases hsp:a.spot with
   |none=>rw [hsp]at hs;exact hs.2
   | some q=>
     rw [hsp]at hs
     simp only []at hs⊢
     obtain⟨_,s2,s3,_,s5⟩:=hs
     have:a'.off=base+a.off:=by rcases s5 with s5|s5<;>omega
     cases a';simp at s2 s3 this;simp [s2,s3,this]

theorem i9 {mu:Mu} {h:Hp} {w:World} (hh:aF mu h w) {a a':Addr} {len cap cap' k:Nat} (hlc:len<=cap) (hs:dh mu a cap a' cap') {l:List Value} (hl:h.load a.block a.off (len*k)=some l):
 l.length=len*k/\ ∃l',VL mu l l'/\ ∀w2:World,w2.heap=w.heap->(Builtin.firstCells k len (.slice (some a') len cap')).run P w2=.ok l'.toArray w2:=by
 by_cases hc:cap=0
 . have :len=0:=by omega
   subst this
   have hl0:l.length=0:=by
    unfold Hp.load at hl
    cases hg:h.get a.block with
    |none=>simp [hg]at hl
    | some x=>
      simp only [hg]at hl
      cases x<;>(try simp only []at hl)<;>try (cases hl;done)
      rename_i t sz el md
      rw [du]at hl
      by_cases hcc:a.off+0*k<=sz
      . simp only [hcc,decide_true,cond_true]at hl
        have:=(Tr.slice_spec hl).1;simpa using this
      . rw [decide_eq_false hcc]at hl;cases hl
   have:l=[]:=by cases l<;>simp_all
   subst this
   exact⟨by simp,[],LR.nil,fun w2 _=>by simp [Builtin.firstCells,loadCells,loadCellsFrom]⟩
 . have har:=oo hs hc
   obtain⟨h1,l',h2,h3⟩:=qk hh har hl
   refine⟨h1,l',h2,fun w2 he=>?_⟩
   have hcell: ∀(j:Nat) v',l'[j]? =some v'->w2.cell? (a'.add j)=some v':=by
    intro j v' hv;rw [<-h3 j v' hv];simp only [World.cell?,he]
   have:=run_loadCells_list (P:=P) w2 a' l' hcell
   rw [show l'.length=len*k by rw [<-h2.1];exact h1]at this
   simp [Builtin.firstCells,this]

theorem vp{mu:Mu}{h:Hp}{w:World}(hh:aF mu h w){k n:Nat}{x x':Value}{new:List Value}(hl:aO h k x=some (n,new))(hx:ao mu x x'):
 new.length=n*k/\(∀w2:World,(Builtin.lenOf x').run P w2=.ok n w2)/\ ∃new',VL mu new new'/\ ∀w2:World,w2.heap=w.heap->(Builtin.firstCells k n x').run P w2=.ok new'.toArray w2:=by
 unfold aO at hl
 cases hx<;>(try simp only []at hl)<;>try (cases hl;done)
 . rename_i s
   rw [cw]at hl
   by_cases hk:k=1
   . subst hk
     simp only [decide_true,cond_true]at hl
     cases hl
     refine⟨by simp [aE],fun w2=>rfl,(aE s).map fun b=>.int .u8 (.ofNat b.toNat),LR.mapSame _ fun b=>.int _ _,fun w2 _=>?_⟩
     simp only [Builtin.firstCells,Sem.run_pure]
     congr 1
     apply yw
     simp [aE]
   . simp [hk]at hl
 . cases hl
   exact⟨by simp,fun w2=>rfl,[],LR.nil,fun w2 _=>rfl⟩
 . rename_i a a' len cap cap' hlc hsr
   cases hld:h.load a.block a.off (len*k)with
   |none=>simp [hld]at hl
   | some l=>
     simp only [hld]at hl
     cases hl
     obtain⟨h1,l',h2,h3⟩:=i9 (P:=P) hh hlc hsr hld
     exact⟨h1,fun w2=>rfl,l',h2,h3⟩

theorem hrel_move{mu:Mu}{h:Hp}{w w':World}(hh:aF mu h w){b c base top base2:Nat}{o:Obj}{x:Blk}(hm:mu b=.blk c base top)
 (hro: ∀t sz el,h.get b≠some (.cells t sz el 0)) (hw:WSet w w' c o) (hb:jF (upd mu b .dead) x base2 top o):
 aF (upd (upd mu b .dead) h.n (.blk c base2 top)) ((h.put b .dead).new x) w'/\Ext mu h w (upd (upd mu b .dead) h.n (.blk c base2 top)) ((h.put b .dead).new x) w':=by
 obtain⟨k1,e1⟩:=mj hh hm hro hw
 have hbl:=hh.lt b (by rw [hm];simp)
 have hn:(h.put b .dead).n=h.n:=rfl
 have hle:Le (upd mu b .dead) (upd (upd mu b .dead) h.n (.blk c base2 top)):=by
  intro b' hb';left;exact aG _ _ (by have:=k1.lt b' hb';rw [hn]at this;omega)
 have hgn:=(h.put b .dead).get_new x k1.sized
 have hfree: ∀b' base' top',upd mu b .dead b'≠ .blk c base' top':=by
  intro b' base' top' hm'
  have hbb:b'≠b:=by intro e;subst e;rw [upd_same]at hm';cases hm'
  rw [aG _ _ hbb]at hm'
  exact hbb (hh.inj b' b c _ _ _ _ hm' hm)
 refine⟨⟨Tr.sized_push x k1.sized,?_,?_,?_,?_⟩,?_⟩
 . intro b' c' base' top' hm'
   by_cases hbn:b'=h.n
   . subst hbn
     rw [upd_same]at hm'
     cases hm'
     exact⟨x,o,by rw [hgn,hn];simp,hw.at_,hb.mono hle⟩
   . rw [aG _ _ hbn]at hm'
     obtain⟨y,o',h1,h2,h3⟩:=k1.blk b' c' base' top' hm'
     exact⟨y,o',by rw [hgn,hn,if_neg hbn];exact h1,h2,h3.mono hle⟩
 . intro b' hm'
   by_cases hbn:b'=h.n
   . subst hbn;rw [upd_same]at hm';cases hm'
   . rw [aG _ _ hbn]at hm';rw [hgn,hn,if_neg hbn];exact k1.dead b' hm'
 . intro b1 b2 c' base1 top1 base2' top2 h1 h2
   by_cases n1:b1=h.n
   . by_cases n2:b2=h.n
     . rw [n1,n2]
     . subst n1;rw [upd_same]at h1;rw [aG _ _ n2]at h2;cases h1;exact absurd h2 (hfree _ _ _)
   . rw [aG _ _ n1]at h1
     by_cases n2:b2=h.n
     . subst n2;rw [upd_same]at h2;cases h2;exact absurd h1 (hfree _ _ _)
     . rw [aG _ _ n2]at h2;exact k1.inj b1 b2 c' _ _ _ _ h1 h2
 . intro b' hm'
   show b'<h.n+1
   by_cases hbn:b'=h.n
   . omega
   . rw [aG _ _ hbn]at hm';have:=k1.lt b' hm';rw [hn]at this;omega
 . refine⟨by show h.n<=h.n+1;omega,?_,?_,e1.lo,?_,e1.frame,?_,e1.wsize,e1.os,e1.tape,e1.output,fun b' h1 h2=>by
    have h2':b'<h.n+1:=h2
    have:b'=h.n:=by omega
    subst this;rw [upd_same];simp⟩
   . intro b' hb'
     rw [aG _ _ (by omega)];exact e1.old b' hb'
   . intro b' c' base' top' hb' hm'
     by_cases hbn:b'=h.n
     . subst hbn;rw [upd_same]at hm';cases hm'
       exact .inr ⟨b,base,top,hbl,hm,by rw [aG _ _ (by omega)];exact upd_same _ _ _⟩
     . rw [aG _ _ hbn]at hm'
       exact absurd (k1.lt b' (by rw [hm'];simp)) (by rw [hn];omega)
   . intro b' hb' hlo
     rw [hgn,hn,if_neg (by omega)];exact e1.same b' hb' hlo
   . intro b' c' base' top' t sz el hm' hg'
     obtain⟨g1,g2,g3⟩:=e1.ro b' c' base' top' t sz el hm' hg'
     have hb'l:=hh.lt b' (by rw [hm'];simp)
     exact⟨g1,by rw [hgn,hn,if_neg (by omega)];exact g2,by rw [aG _ _ (by omega)];exact g3⟩

theorem wZ {n c:Nat} (h:c<n):Builtin.nextslicecap n c<=3*n:=by
 unfold Builtin.nextslicecap
 split
 . omega
 . split
   . omega
   . rename_i h1 h2
     have key: ∀(r c:Nat),c<=n+(n+768)/4->Builtin.growBy n r c<=n+(n+768)/4:=by
      intro r
      induction r with
      |zero=>intro c hc;exact hc
      | succ r ih=>
        intro c hc
        simp only [Builtin.growBy]
        split
        . exact hc
        . exact ih _ (by omega)
     have:=key 4 c (by omega)
     omega
end
end Go.Ab

namespace Go.Ab
theorem tH{w:World}{c:Nat}{cs:Array Value}{el:TypeId}{fz:Nat×Nat}(o:Nat)(vs:List Value)(h:w.heap[c]? =some (.cells cs el fz)):
 ∃cs2,WSet w (w.setCells c o vs) c (.cells cs2 el fz)/\cs2.toList=bI cs.toList o vs:=setCells_at c vs o w cs el fz h
section
variable{E:Env}{P:Program}(ok:EOk E P)
include ok

omit ok in
theorem tz{t:TypeId}(h:ax E t=some false): ∃d,E.und t=some d/\(match d with| .int _=>true|_=>false)=false:=by
 unfold ax at h
 cases hu:E.und t with
 |none=>simp [hu]at h
 | some d=>
   simp only [hu]at h
   exact⟨d,rfl,by cases d<;>simp at h<;>rfl⟩

theorem qh{mu:Mu}{h:Hp}{w:World}(hh:aF mu h w){e:TypeId}{i:TypeInfo}{zs:List Value}(hz:E.zero e=some zs)(hzl:zs.length=i.size)
 {len n cap':Nat} {s' x':Value} {old' new':List Value} (h1: ∀w2:World,w2.heap=w.heap->(Builtin.firstCells i.size len s').run P w2=.ok old'.toArray w2)
 (h2: ∀w2:World,w2.heap=w.heap->(Builtin.firstCells i.size n x').run P w2=.ok new'.toArray w2) (l1:old'.length=len*i.size) (l2:new'.length=n*i.size)
 {t2:Tr Value} {s2:Nat} (ht:t2.Sized s2) (hs2:s2=old'.length+new'.length) (hrel: ∀j v,t2.get j=some v-> ∃v',(old'++new')[j]? =some v'/\ao mu v v'):
 ∃ v' mu' w',((do
   let newCap<-choose (.appendCap (len+n) cap' e)
   askRoom (newCap*i.bytes)
   let old<-Builtin.firstCells i.size len s'
   let new<-Builtin.firstCells i.size n x'
   let rest:=Builtin.zeroCells (<-zeroValue e).cells (newCap-(len+n))
   pure (Value.slice (some (<-newRow e (old++new++rest))) (len+n) newCap):Sem Value)).run P w=.ok v' w'/\
   aF mu' (h.new (.cells t2 s2 e 1)) w'/\Ext mu h w mu' (h.new (.cells t2 s2 e 1)) w'/\ao mu' (.slice (some ⟨h.n,0,some i.size⟩) (len+n) (len+n)) v':=by
 obtain⟨z,z1,z2,z3,z4⟩:=kz ok hz {w with drawn:=w.drawn+1}
 obtain⟨nc,hnc⟩: ∃nc,nc=(Question.appendCap (len+n) cap' e).cut (w.tape w.drawn (.appendCap (len+n) cap' e)):=⟨_,rfl⟩
 have hge:len+n<=nc:=by rw [hnc];simp only [Question.cut];omega
 have hzs:z.cells.size=i.size:=by rw [<-hzl,<-z2];rfl
 obtain⟨rest,hrest⟩: ∃rest,rest=Builtin.zeroCells z.cells (nc-(len+n)):=⟨_,rfl⟩
 have hrs:rest.size=(nc-(len+n))*i.size:=by rw [hrest];simp [Builtin.zeroCells,hzs]
 obtain⟨cs,hcs⟩: ∃cs,cs=old'.toArray++new'.toArray++rest:=⟨_,rfl⟩
 have hsz:cs.size=nc*i.size:=by
  rw [hcs];simp only [Array.size_append,List.size_toArray,l1,l2,hrs]
  rw [<-ym,<-ym];congr 1;omega
 have hfits:s2<=cs.size:=by
  rw [hs2,l1,l2,hsz,<-ym];exact yi _ hge
 have hd:aF mu h {w with drawn:=w.drawn+1}:=oX hh rfl
 obtain⟨g1,g2⟩:=kc (x:=.cells t2 s2 e 1) (base:=0) (top:=cs.size) (o:=.cells cs e) hd (fo {w with drawn:=w.drawn+1} (.cells cs e)) ⟨cs,e,(0,0),rfl,rfl,by omega,ht,by
  intro j v hv
  obtain⟨v',k1,k2⟩:=hrel j v hv
  refine⟨v',?_,k2⟩
  rw [yq,<-xW,hcs]
  simp only [ye]
  have hj:j<(old'++new').length:=(List.getElem?_eq_some_iff.1 k1).1
  rw [xY hj];exact k1,by intro _ j _ hx;omega⟩
 refine⟨.slice (some ⟨w.heap.size,0,none⟩) (len+n) nc,_,_,?_,g1,(pW (w':={w with drawn:=w.drawn+1}) hh rfl rfl rfl rfl).trans g2,?_⟩
 . have hf:(Question.appendCap (len+n) cap' e).forced=false:=rfl
   simp only [Sem.run_bind,run_choose,hf,yb,if_false,Result.andThen_ok,run_askRoom,h1 {w with drawn:=w.drawn+1} rfl,h2 {w with drawn:=w.drawn+1} rfl,z1,<-hnc,<-hrest,newRow,run_newObj,Sem.run_pure,<-hcs]
 . exact th mu h.n w.heap.size cs.size (len+n) (len+n) nc i.size (xZ _) hge (by rw [hsz];exact xZ _)

theorem ra{ts:Array TypeId}{ty t tx e:TypeId}{i:TypeInfo}{xs:Array Value}{x':Value}{base:Option Addr}{len cap' n:Nat}{w:World}(ht0:ts[0]? =some t)(ht1:ts[1]? =some tx)(hx0:xs[0]? =some (.slice base len cap'))(hx1:xs[1]? =some x')
 (hit:ax E tx=some false) (hu:E.und t=some (.slice e)) (hi:E.ty e=some i) (hn:(Builtin.lenOf x').run P w=.ok n w) (h1:len+n<=cap'):
 (Builtin.append_ ts ty xs).run P w=((do
  let new<-Builtin.firstCells i.size n x'
  match base with
   |some a=>do storeCells (a.add (len*i.size)) new.toList;pure (Value.slice base (len+n) cap')
   |none=>pure (Value.slice base (len+n) cap'):Sem Value)).run P w:=by
 have hsz:E.sz e=some i.size:=by unfold Env.sz;rw [hi]
 obtain⟨dx,hdx,hm⟩:=tz hit
 unfold Builtin.append_
 simp only [ht0,ht1,hx0,hx1,Sem.run_bind,aM ok hu,Result.andThen_ok,dL ok hsz,aM ok hdx,Sem.run_pure]
 cases dx<;>first
  |(simp at hm;done)
  | (simp only [yb,if_false,Sem.run_bind,hn,Result.andThen_ok,yk,if_true,if_pos h1]
     cases base<;>rfl)
theorem mR{ts:Array TypeId}{ty t tx e:TypeId}{i:TypeInfo}{xs:Array Value}{x':Value}{base:Option Addr}{len cap' n:Nat}{w:World}(ht0:ts[0]? =some t)(ht1:ts[1]? =some tx)(hx0:xs[0]? =some (.slice base len cap'))(hx1:xs[1]? =some x')
 (hit:ax E tx=some false) (hu:E.und t=some (.slice e)) (hi:E.ty e=some i) (hn:(Builtin.lenOf x').run P w=.ok n w) (hb:0<i.bytes) (h1: ¬len+n<=cap') (h2: ¬Builtin.nextslicecap (len+n) cap'*i.bytes>2 ^48):
 (Builtin.append_ ts ty xs).run P w=((do
  let newCap<-choose (.appendCap (len+n) cap' e)
  askRoom (newCap*i.bytes)
  let old<-Builtin.firstCells i.size len (.slice base len cap')
  let new<-Builtin.firstCells i.size n x'
  let rest:=Builtin.zeroCells (<-zeroValue e).cells (newCap-(len+n))
  pure (Value.slice (some (<-newRow e (old++new++rest))) (len+n) newCap):Sem Value)).run P w:=by
 have hsz:E.sz e=some i.size:=by unfold Env.sz;rw [hi]
 obtain⟨dx,hdx,hm⟩:=tz hit
 have hc: ¬(((len+n:Nat):Int)>IntKind.i64.max/\(False\/i.bytes=0)):=by rintro⟨_,h|h⟩;exact h;omega
 unfold Builtin.append_
 simp only [ht0,ht1,hx0,hx1,Sem.run_bind,aM ok hu,Result.andThen_ok,dL ok hsz,aM ok hdx,Sem.run_pure]
 cases dx<;>first
  |(simp at hm;done)
  | (simp only [yb,if_false,Sem.run_bind,hn,Result.andThen_ok,yk,if_true,if_neg h1,jZ ok hi,if_neg hc,if_neg h2,run_choose,show(Question.appendCap (len+n) cap' e).forced=false from rfl]
     try rfl)
theorem vH {mu : Mu} {h h' : Hp} {w : World} (hh:aF mu h w) {ts:Array TypeId} {ty:TypeId} {xs:Array Value} {s s' x x' v:Value} (hx0:xs[0]? =some s') (hx1:xs[1]? =some x')
 (hl:c9 E h ts.toList s x=some (h',v)) (hs:ao mu s s') (hx:ao mu x x'):
 ∃v' mu' w',(Builtin.append_ ts ty xs).run P w=.ok v' w'/\aF mu' h' w'/\Ext mu h w mu' h' w'/\ao mu' v v':=by
 unfold c9 at hl
 cases hts:ts.toList with
 |nil=>simp [hts]at hl
 | cons t ts1 =>
   cases ts1 with
   |nil=>simp [hts]at hl
   | cons tx ts2 =>
     have ht0:ts[0]? =some t:=by rw [<-xW,hts];rfl
     have ht1:ts[1]? =some tx:=by rw [<-xW,hts];rfl
     simp only [hts]at hl
     cases hit:ax E tx with
     |none=>simp [hit]at hl
     | some b =>
       cases b with
       |true=>simp [hit]at hl
       | false =>
         simp only [hit]at hl
         unfold jf at hl
         cases hu:E.und t with
         |none=>simp [hu]at hl
         | some d=>
           simp only [hu]at hl
           cases d<;>(try simp only []at hl)<;>try (cases hl;done)
           rename_i e
           cases hi:E.ty e with
           |none=>simp [hi]at hl
           | some i =>
             simp only [hi]at hl
             have hsl: ∃a len cap,s=.slice a len cap:=by
              cases s<;>simp at hl<;>exact⟨_,_,_,rfl⟩
             obtain⟨a,len,cap,rfl⟩:=hsl
             simp only []at hl
             cases hsrc:aO h i.size x with
             |none=>simp [hsrc]at hl
             | some q=>
               obtain⟨n,new⟩:=q
               simp only [hsrc]at hl
               obtain⟨l1,l2,new',l3,l4⟩:=vp (P:=P) hh hsrc hx
               unfold ey at hl
               rw [du,du,fV]at hl
               have hsl': ∃a' cap',s'=.slice a' len cap'/\cap<=cap'/\len<=cap:=by
                cases hs with
                |nils=>exact⟨none,0,rfl,xZ _,xZ _⟩
                |slice h1 h2=>exact⟨some _,_,rfl,h2.caps,h1⟩
               obtain⟨a',cap',rfl,hcc,hlc⟩:=hsl'
               by_cases hfit:len+n<=cap
               . simp only [hfit,decide_true,cond_true]at hl
                 rw [ra ok ht0 ht1 hx0 hx1 hit hu hi (l2 w) (by omega)]
                 have hf:=l4 w rfl
                 cases hs with
                 | nils=>
                   simp only []at hl
                   cases hl
                   have hn0:n=0:=by omega
                   subst hn0
                   exact⟨.slice none 0 0,mu,w,by simp [hf],hh,Ext.refl mu h w hh,.nils⟩
                 | slice h1 h2=>
                   rename_i a a'
                   simp only []at hl
                   simp only [Sem.run_bind,hf,Result.andThen_ok]
                   cases new with
                   | nil=>
                     simp only []at hl
                     cases hl
                     rw [l3.nil_left]
                     exact⟨.slice (some a') (len+n) cap',mu,w,by simp [storeCells],hh,Ext.refl mu h w hh,.slice hfit h2⟩
                   | cons x0 xr=>
                     simp only []at hl
                     have hn0:n≠0:=by intro e;subst e;simp at l1
                     cases hst:h.store a.block (a.off+len*i.size) (x0::xr)with
                     |none=>simp [hst]at hl
                     | some h2'=>
                       simp only [hst]at hl
                       cases hl
                       have har:=kE (oo h2 (by omega)) (len*i.size)
                       obtain⟨w',g1,g2,g3⟩:=oZ (P:=P) (a:=d5 a (len*i.size)) hh har hst l3
                       exact⟨.slice (some a') (len+n) cap',mu,w',by simp [g1],g2,g3,.slice hfit h2⟩
               . simp only [hfit, decide_false,cond_false]at hl
                 by_cases hb:(len+n)*(i.bytes+1)<=70368744177664/\0<i.bytes
                 . simp only [hb.1, hb.2,decide_true,yf,cond_true]at hl
                   cases hz:E.zero e with
                   |none=>simp [hz]at hl
                   | some zs =>
                     simp only [hz,cw]at hl
                     by_cases hzl:zs.length=i.size
                     . simp only [hzl, decide_true,cond_true]at hl
                       have hnext: ∀c,c<len+n-> ¬Builtin.nextslicecap (len+n) c*i.bytes>2 ^48:=by
                        intro c hc
                        have:=wZ hc
                        have h3:Builtin.nextslicecap (len+n) c*i.bytes<=3*(len+n)*i.bytes:=yi _ this
                        have h4:(len+n)*i.bytes<=(len+n)*(i.bytes+1):=Nat.mul_le_mul_left _ (by omega)
                        rw [Nat.mul_assoc]at h3
                        have:(2:Nat) ^48=281474976710656:=rfl
                        omega
                       unfold lz at hl
                       cases hs with
                       | nils=>
                         simp only [cw,decide_true,cond_true]at hl
                         cases hl
                         rw [mR ok ht0 ht1 hx0 hx1 hit hu hi (l2 w) hb.2 (by omega) (hnext 0 (by omega))]
                         have:=qh ok hh (e:=e) (i:=i) hz hzl (len:=0) (n:=n) (cap':=0) (s':=.slice none 0 0) (x':=x') (old':=[]) (new':=new') (fun w2 _=>rfl) l4 (by simp) (by rw [<-l3.1];exact l1) (t2:=Tr.ofList new) (s2:=new.length) (Tr.sized_ofList _) (by rw [l3.1];simp) (by
                          intro j v hv;rw [Tr.get_ofList]at hv;exact l3.get hv)
                         obtain⟨v',mu',w',g1,g2,g3,g4⟩:=this
                         exact⟨v',mu',w',g1,g2,g3,by simpa using g4⟩
                       | slice h1 h2=>
                         rename_i a a'
                         simp only []at hl
                         cases hg:h.get a.block with
                         |none=>simp [hg]at hl
                         | some y =>
                           simp only [hg]at hl
                           cases y<;>(try simp only []at hl)<;>try (cases hl;done)
                           rename_i tr sz el md
                           cases hgt:jv tr sz a.off (len*i.size) new with
                           |none=>simp [hgt]at hl
                           | some p =>
                             obtain⟨t2,s2⟩:=p
                             simp only [hgt]at hl
                             have hmu: ∃c base top cs el' fz,mu a.block=.blk c base top/\w.heap[c]? =some (.cells cs el' fz)/\CRel mu tr sz md base top cs fz:=by
                              unfold dh at h2
                              cases hm:mu a.block with
                              |none=>rw [hm]at h2;exact h2.elim
                              |dead=>have:=hh.dead _ hm;rw [hg]at this;cases this
                              | blk c base top=>
                                obtain⟨y,o,k1,k2,k3⟩:=hh.blk _ c base top hm
                                rw [hg]at k1;cases k1
                                obtain⟨cs,el',fz,rfl,k4⟩:=k3
                                exact⟨c,base,top,cs,el',fz,rfl,k2,k4⟩
                             obtain⟨c,base,top,cs,el',fz,hm,hw,cr⟩:=hmu
                             obtain⟨q1,q2,q3,q4,q5⟩:=wz cr.sized hgt
                             -- the old cells
                             obtain⟨old,hold⟩:=Tr.slice_mk (t:=tr) (i:=a.off) (n:=len*i.size) (fun k hk=>by
                              obtain⟨v,hv⟩:=Tr.get_some cr.sized (show a.off+k<sz by omega);rw [hv];rfl)
                             have hload:h.load a.block a.off (len*i.size)=some old:=by
                              unfold Hp.load;rw [hg];simp only [du,q1,decide_true,cond_true];exact hold
                             obtain⟨o1,old',o2,o3⟩:=i9 (P:=P) hh h1 h2 hload
                             have hget: ∀j v,t2.get j=some v-> ∃v',(old'++new')[j]? =some v'/\ao mu v v':=by
                              intro j v hv
                              by_cases hj:j<len*i.size
                              . rw [q4 j hj,(Tr.slice_spec hold).2 j hj]at hv
                                obtain⟨v',r1,r2⟩:=LR.get o2 hv
                                exact⟨v',by rw [xY (by rw [<-o2.1,o1];exact hj)];exact r1,r2⟩
                              . rw [q5 j (by omega)]at hv
                                obtain⟨v',r1,r2⟩:=LR.get l3 hv
                                exact⟨v',by rw [yd (by rw [<-o2.1,o1];omega),<-o2.1,o1];exact r1,r2⟩
                             have hs2:s2=old'.length+new'.length:=by rw [<-o2.1,<-l3.1,o1];exact q2
                             cases hsp:a.spot with
                             | none=>
                               simp only [hsp]at hl
                               cases hl
                               have hce:cap'=cap:=by
                                unfold dh at h2;rw [hm]at h2;simp only [hsp]at h2;exact h2.1
                               rw [mR ok ht0 ht1 hx0 hx1 hit hu hi (l2 w) hb.2 (by omega) (hnext cap' (by omega))]
                               exact qh ok hh hz hzl o3 l4 (by rw [<-o2.1];exact o1) (by rw [<-l3.1];exact l1) q3 hs2 hget
                             | some k' =>
                               simp only [hsp,cw]at hl
                               by_cases hk:k'=i.size/\md≠0/\new.all iK=true
                               . obtain ⟨rfl,hmd,hfl⟩:=hk
                                 simp only [hmd,hfl,decide_true,decide_false,yk,yf,cond_true]at hl
                                 cases hl
                                 have hro: ∀t sz el,h.get a.block≠some (.cells t sz el 0):=by intro t sz' el' e;rw [hg]at e;cases e;exact hmd rfl
                                 by_cases hroom:len+n<=cap'
                                 . -- it fits all the same
                                   rw [ra ok ht0 ht1 hx0 hx1 hit hu hi (l2 w) hroom]
                                   simp only [Sem.run_bind,l4 w rfl,Result.andThen_ok]
                                   have h2':=h2
                                   unfold dh at h2'
                                   rw [hm]at h2'
                                   simp only [hsp]at h2'
                                   obtain⟨s1,s2',s3,s4,s5⟩:=h2'
                                   have hnk:(len+n)*i.size<=cap'*i.size:=yi _ hroom
                                   have hnk2:len*i.size+n*i.size=(len+n)*i.size:=(ym _ _ _).symm
                                   have hln:new'.length=n*i.size:=by rw [<-l3.1];exact l1
                                   have hcsz:=cr.whole
                                   have hone: ∀v∈new',v.oneCell'=true:=by
                                    intro v hv
                                    obtain⟨j,hj⟩:=List.mem_iff_getElem?.1 hv
                                    have hj':j<new.length:=by rw [l3.1];exact(List.getElem?_eq_some_iff.1 hj).1
                                    have:=l3.2 j _ v (yp hj') hj
                                    refine this.flat ?_
                                    simp only [yg]at hfl
                                    exact hfl _ (List.getElem_mem hj')
                                   have hrun:=run_storeCells_cells (P:=P) c (a'.off+len*i.size) new' 0 w (fun j hj=>by
                                    simp only [World.cell?,hw]
                                    simp
                                    omega) (fun j hj=>by
                                    simp only [World.frozen?,hw]
                                    have:=cr.free hmd (a'.off+len*i.size+0+j) (by omega)
                                    simp only [yt,decide_eq_false_iff_not]
                                    by_cases hx:fz.1<=a'.off+len*i.size+0+j
                                    . right;exact fun hy=>this ⟨hx,hy⟩
                                    . left;exact hx) hone
                                   rw [Nat.add_zero]at hrun
                                   have hadd:a'.add (len*i.size)=⟨c,a'.off+len*i.size,none⟩:=by rw [kw _ _ s3,s2']
                                   obtain⟨cs2,ws,e2⟩:=tH (a'.off+len*i.size) new' hw
                                   have hlen2:cs2.size=cs.size:=by
                                    have:cs2.toList.length=cs.toList.length:=by rw [e2,mO]
                                    simpa using this
                                   have hle:Le mu (upd mu a.block .dead):=by
                                    intro b' _
                                    by_cases hbb:b'=a.block
                                    . subst hbb;right;exact upd_same _ _ _
                                    . left;exact aG _ _ hbb
                                   obtain⟨g1,g2⟩:=hrel_move hh (x:=.cells t2 s2 e 1) (base2:=a'.off) hm hro ws ⟨cs2,el',fz,rfl,by rw [hlen2];exact hcsz,by omega,q3,by
                                    intro j v hv
                                    rw [<-xW,e2,ue _ _ _ _ (show a'.off+len*i.size+new'.length<=cs.toList.length by have:cs.toList.length=cs.size:=rfl;omega)]
                                    by_cases hj:j<len*i.size
                                    . rw [if_neg (by omega)]
                                      rw [q4 j hj]at hv
                                      obtain⟨v',r1,r2⟩:=cr.get _ _ hv
                                      have hoff:a'.off=base+a.off:=by
                                       rcases s5 with s5|s5
                                       . have:len=0:=by omega
                                         subst this;simp at hj
                                       . exact s5
                                      exact⟨v',by rw [xW,hoff,Nat.add_assoc];exact r1,r2.mono hle⟩
                                    . rw [q5 j (by omega)]at hv
                                      obtain⟨v',r1,r2⟩:=LR.get l3 hv
                                      have hjl:j-len*i.size<new'.length:=(List.getElem?_eq_some_iff.1 r1).1
                                      rw [if_pos (by omega),show a'.off+j-(a'.off+len*i.size)=j-len*i.size by omega]
                                      exact⟨v',r1,r2.mono hle⟩,fun _=>by
                                    intro j hj;exact cr.free hmd j (by omega)⟩
                                   refine⟨.slice (some a') (len+n) cap',_,_,?_,g1,g2,.slice (xZ _) ?_⟩
                                   . simp only [hadd,hrun,Result.andThen_ok,Sem.run_pure]
                                   . unfold dh;simp only [upd_same];exact⟨hroom,s2',s3,s4,by right;rfl⟩
                                 . rw [mR ok ht0 ht1 hx0 hx1 hit hu hi (l2 w) hb.2 hroom (hnext cap' (by omega))]
                                   have hle:Le mu (upd mu a.block .dead):=by
                                    intro b' _
                                    by_cases hbb:b'=a.block
                                    . subst hbb;right;exact upd_same _ _ _
                                    . left;exact aG _ _ hbb
                                   obtain⟨k1,k2⟩:=mj hh hm hro (w':=w) ⟨rfl,hw,fun _ _=>rfl,rfl,rfl,rfl⟩
                                   obtain⟨v',mu',w',g1,g2,g3,g4⟩:=qh ok k1 hz hzl o3 l4 (by rw [<-o2.1];exact o1) (by rw [<-l3.1];exact l1) q3 hs2 (fun j v hv=>by
                                    obtain⟨v',r1,r2⟩:=hget j v hv;exact⟨v',r1,r2.mono hle⟩)
                                   exact⟨v',mu',w',g1,g2,k2.trans g3,g4⟩
                               . have:(decide (k'=i.size)&& !decide (md=0)&&new.all iK)=false:=by
                                  rw [<-yc];simpa [and_assoc]using hk
                                 rw [this]at hl;simp at hl
                     . simp [hzl]at hl
                 . have:(decide ((len+n)*(i.bytes+1)<=70368744177664)&&decide (0<i.bytes))=false:=by
                    rw [<-yc];simpa using hb
                   rw [this]at hl;simp at hl
end
end Go.Ab

namespace Go.Ab
section
variable{E:Env}{P:Program}(ok:EOk E P)
include ok

omit ok in
theorem nf(a b:Nat):dz a b=yu a b:=by
 unfold dz;rw [du]
 by_cases h:a<=b
 . simp only [h,decide_true,cond_true];exact(Nat.min_eq_left h).symm
 . simp only [h,decide_false,cond_false];exact(Nat.min_eq_right (by omega)).symm
theorem copyV_run {mu:Mu} {h h':Hp} {w:World} (hh:aF mu h w) {ts:Array TypeId} {ty:TypeId} {xs:Array Value} {s s' x x' v:Value} (hx0:xs[0]? =some s') (hx1:xs[1]? =some x')
 (hl:copyV E h ts.toList s x=some (h',v)) (hs:ao mu s s') (hx:ao mu x x'):
 ∃v' mu' w',(Builtin.copy_ ts ty xs).run P w=.ok v' w'/\aF mu' h' w'/\Ext mu h w mu' h' w'/\ao mu' v v':=by
 unfold copyV at hl
 cases hts:ts.toList with
 |nil=>simp [hts]at hl
 | cons t ts1=>
   have ht0:ts[0]? =some t:=by rw [<-xW,hts];rfl
   simp only [hts]at hl
   cases hu:E.und t with
   |none=>simp [hu]at hl
   | some d =>
     simp only [hu]at hl
     cases d<;>(try simp only []at hl)<;>try (cases hl;done)
     rename_i e
     cases hk:E.sz e with
     |none=>simp [hk]at hl
     | some k=>
       simp only [hk]at hl
       have hsl: ∃a len cap,s=.slice a len cap:=by
        cases s<;>simp at hl<;>exact⟨_,_,_,rfl⟩
       obtain⟨a,len,cap,rfl⟩:=hsl
       have hsl': ∃a' cap',s'=.slice a' len cap'/\len<=cap:=by
        cases hs with
        |nils=>exact⟨none,0,rfl,xZ _⟩
        |slice h1 h2=>exact⟨some _,_,rfl,h1⟩
       obtain⟨a',cap',rfl,hlc⟩:=hsl'
       unfold Builtin.copy_
       simp only [ht0,hx0,hx1,Sem.run_bind,aM ok hu,Result.andThen_ok]
       simp only []at hl
       cases hx<;>(try simp only []at hl)<;>try (cases hl;done)
       . cases hl
         refine⟨goInt 0,mu,w,?_,hh,Ext.refl mu h w hh,.int _ _⟩
         have:yu 0 len=0:=Nat.zero_min len
         cases a'<;>simp [Builtin.lenOf,dL ok hk,Builtin.firstCells,this,storeCells]
       . rename_i b b' m cp cp' h1 h2
         cases hld:h.load b.block b.off (dz m len*k)with
         |none=>simp [hld]at hl
         | some l=>
           simp only [hld]at hl
           have hnm:dz m len<=cp:=by rw [nf];exact Nat.le_trans (Nat.min_le_left m len) h1
           obtain⟨o1,l',o2,o3⟩:=i9 (P:=P) hh (len:=dz m len) hnm h2 hld
           have o4:(Builtin.firstCells k (yu m len) (.slice (some b') m cp')).run P w=.ok l'.toArray w:=by
            rw [<-nf];exact o3 w rfl
           cases l with
           | nil=>
             simp only []at hl
             cases hl
             have:l'=[]:=o2.nil_left
             subst this
             refine⟨goInt (yu m len:Nat),mu,w,?_,hh,Ext.refl mu h w hh,by rw [nf];exact .int _ _⟩
             cases a'<;>simp [Builtin.lenOf,dL ok hk,o4,storeCells]
           | cons y ys=>
             simp only []at hl
             cases a with
             |none=>simp at hl
             | some a=>
               cases hs with
               | slice q1 q2=>
                 rename_i a'
                 simp only []at hl
                 cases hst:h.store a.block a.off (y::ys)with
                 |none=>simp [hst]at hl
                 | some h2'=>
                   simp only [hst]at hl
                   cases hl
                   have hcap:cap≠0:=by
                    intro e0
                    have:len=0:=by omega
                    subst this
                    rw [nf,show yu m 0=0 from Nat.min_zero m]at o1;simp at o1
                   obtain⟨w',g1,g2,g3⟩:=oZ (P:=P) hh (oo q2 hcap) hst o2
                   refine⟨goInt (yu m len:Nat),mu,w',?_,g2,g3,by rw [nf];exact .int _ _⟩
                   simp [Builtin.lenOf,dL ok hk,o4,g1]

omit ok in
theorem vC{mu:Mu}{l l':List Value}{r:List UInt8}(h:bytesOf l=some r)(hl:VL mu l l')(s:ByteArray)(w:World)(m:String):
 (forIn l' s (fun c s=>match c with| .int .u8 n=>pure (ForInStep.yield (s.push (UInt8.ofNat n.toNat)))|_=>do stuck m;pure (ForInStep.yield s)):Sem ByteArray).run P w=.ok (fD (aE s++r)) w:=by
 induction l generalizing l' r s with
 | nil=>
   rw [hl.nil_left]
   simp only [bytesOf]at h
   cases h
   simp [fD,aE]
 | cons x l ih=>
   obtain⟨x',q,rfl,h1,h2⟩:=hl.cons_left
   have: ∃n:Nat,x=.int .u8 (n:Int):=by
    unfold bytesOf at h
    split at h
    . rename_i heq;cases heq
    . rename_i n l2 heq;injection heq with e1 e2;exact⟨n,e1⟩
    . cases h
   obtain⟨n,rfl⟩:=this
   cases h1
   have h':(match bytesOf l with|none=>none|some r=>some (UInt8.ofNat n::r))=some r:=h
   cases hb:bytesOf l with
   |none=>simp [hb]at h'
   | some r2=>
     simp only [hb]at h'
     cases h'
     simp only [List.forIn_cons,Sem.run_bind,Sem.run_pure,Result.andThen_ok,Int.toNat_natCast]
     rw [ih hb h2]
     simp [fD,aE]

omit ok in
theorem w7(w:World)(cs:Array Value)(e:TypeId):
 WNew w ({w with heap:=w.heap.push (.cells cs e)}.freeze {block:=w.heap.size,off:=cs.size} 1) (.cells cs e (cs.size,cs.size+1)):=by
 refine⟨?_,rfl,rfl,rfl⟩
 simp only [World.freeze,if_neg (show¬(1:Nat)=0 by omega)]
 apply Array.ext_getElem?
 intro j
 rw [yh,yv,yv]
 by_cases hj:w.heap.size=j
 . subst hj;simp
 . rw [if_neg hj,if_neg (Ne.symm hj),if_neg (Ne.symm hj)]

theorem convV_run {mu:Mu} {h h':Hp} {w:World} (hh:aF mu h w) {src dst:TypeId} {x x' v:Value} (hl:jd E h src dst x=some (h',v)) (hx:ao mu x x'):
 ∃v' mu' w',(convert src dst x').run P w=.ok v' w'/\aF mu' h' w'/\Ext mu h w mu' h' w'/\ao mu' v v':=by
 unfold jd at hl
 cases hk:bU E src dst with
 |none=>simp [hk]at hl
 | some q =>
   obtain⟨n,e⟩:=q
   unfold bU at hk
   cases hu:E.und src with
   |none=>simp [hu]at hk
   | some d =>
     simp only [hu]at hk
     have plain:(∀e,d≠ .slice e)->n=0-> ∃v' mu' w',(convert src dst x').run P w=.ok v' w'/\aF mu' h' w'/\Ext mu h w mu' h' w'/\ao mu' v v':=by
      intro hd hn
      subst hn
      have hk0:bU E src dst=some (0,e):=by unfold bU;simp only [hu];exact hk
      simp only [hk0]at hl
      cases hc:jh E dst x with
      |none=>simp [hc]at hl
      | some u=>
        simp only [hc]at hl
        cases hl
        obtain⟨g1,g2⟩:=convP_run ok hu hd hc hx w
        exact⟨_,mu,w,g1,hh,Ext.refl mu h w hh,g2⟩
     cases d<;>(try simp only []at hk)<;>(try (cases hk;exact plain (by intro e he;cases he) rfl))
     case string=>
      cases hud:E.und dst with
      |none=>simp [hud]at hk
      | some dd=>
        simp only [hud]at hk
        cases dd<;>(try simp only []at hk)<;>(try (cases hk;exact plain (by intro e he;cases he) rfl))
        rename_i e2
        cases hue:E.und e2 with
        |none=>simp [hue]at hk
        | some de=>
          simp only [hue]at hk
          have hde:de=.int .u8/\n=2/\e=e2:=by
           cases de<;>(try simp only []at hk)<;>try (cases hk;done)
           rename_i k
           cases k<;>(try simp only []at hk)<;>try (cases hk;done)
           cases hk;exact⟨rfl,rfl,rfl⟩
          obtain⟨rfl,rfl,rfl⟩:=hde
          have hk2:bU E src dst=some (2,e):=by unfold bU;simp only [hu,hud,hue]
          simp only [hk2]at hl
          cases hx<;>(try simp only []at hl)<;>try (cases hl;done)
          rename_i s
          rw [du]at hl
          by_cases hsz:s.size<=1099511627776
          . simp only [hsz,decide_true,cond_true,bytesV]at hl
            cases hl
            obtain⟨nc,hnc⟩: ∃nc,nc=(Question.appendCap s.size 0 e).cut (w.tape w.drawn (.appendCap s.size 0 e)):=⟨_,rfl⟩
            have hge:s.size<=nc:=by rw [hnc];simp only [Question.cut];omega
            obtain⟨cs,hcs⟩: ∃cs:Array Value,cs=(s.data.map fun b=>Value.int .u8 b.toNat)++Array.replicate (nc-s.size) (.int .u8 0):=⟨_,rfl⟩
            have hsize:cs.size=nc:=by
             rw [hcs];simp only [Array.size_append,Array.size_map,Array.size_replicate]
             have:s.data.size=s.size:=rfl
             omega
            have hd:aF mu h {w with drawn:=w.drawn+1}:=oX hh rfl
            have hwn:=w7 {w with drawn:=w.drawn+1} cs e
            have hlen:(aE s).length=s.size:=rfl
            obtain⟨g1,g2⟩:=kc (x:=.cells (Tr.ofList ((aE s).map fun b=>.int .u8 (.ofNat b.toNat))) s.size e 1) (base:=0) (top:=cs.size) hd hwn ⟨cs,e,(cs.size,cs.size+1),rfl,rfl,by omega,by
             have:=Tr.sized_ofList ((aE s).map fun b=>Value.int .u8 (.ofNat b.toNat));rwa [yr,hlen]at this,by
             intro j v hv
             rw [Tr.get_ofList]at hv
             have hj:j<s.size:=by have:=(List.getElem?_eq_some_iff.1 hv).1;rwa [yr,hlen]at this
             refine⟨v,?_,?_⟩
             . rw [yq,<-xW,hcs]
               simp only [ye,ya]
               rw [xY (by rw [yr];exact hj)]
               exact hv
             . simp only [List.getElem?_map,Option.map_eq_some_iff]at hv
               obtain⟨b,_,rfl⟩:=hv
               exact .int _ _,by intro _ j hj hx;omega⟩
            refine⟨.slice (some ⟨w.heap.size,0,none⟩) s.size nc,_,_,?_,g1,(pW (w':={w with drawn:=w.drawn+1}) hh rfl rfl rfl rfl).trans g2,?_⟩
            . have hf:(Question.appendCap s.size 0 e).forced=false:=rfl
              have hshape:World.shape? {w with drawn:=w.drawn+1,heap:=w.heap.push (.cells cs e)} w.heap.size=some (e,cs.size):=by
               simp [World.shape?]
              simp only [convert,Sem.run_bind,aM ok hu,aM ok hud,aM ok hue,Result.andThen_ok,Conv.stringToBytes,run_choose,hf,yb,if_false,<-hnc,newRow,run_newObj,Sem.run_pure,<-hcs,markStringish,run_shape,hshape,run_freeze]
            . exact th mu h.n w.heap.size cs.size s.size s.size nc 1 (xZ _) hge (by omega)
          . simp [hsz]at hl
     case slice e2=>
      cases hud:E.und dst with
      |none=>simp [hud]at hk
      | some dd =>
        simp only [hud]at hk
        cases dd<;>(try simp only []at hk)<;>try (cases hk;done)
        cases hue:E.und e2 with
        |none=>simp [hue]at hk
        | some de =>
          simp only [hue]at hk
          have hde:de=.int .u8/\n=1/\e=e2:=by
           cases de<;>(try simp only []at hk)<;>try (cases hk;done)
           rename_i k
           cases k<;>(try simp only []at hk)<;>try (cases hk;done)
           cases hk;exact⟨rfl,rfl,rfl⟩
          obtain⟨rfl,rfl,rfl⟩:=hde
          have hk2:bU E src dst=some (1,e):=by unfold bU;simp only [hu,hud,hue]
          simp only [hk2]at hl
          cases hst:strOf h x with
          |none=>simp [hst]at hl
          | some u=>
            simp only [hst]at hl
            cases hl
            unfold strOf at hst
            cases hx<;>(try simp only []at hst)<;>try (cases hst;done)
            . cases hst
              refine⟨.string .empty,mu,w,?_,hh,Ext.refl mu h w hh,.string _⟩
              simp [convert,aM ok hu,aM ok hud,aM ok hue,Conv.bytesToString]
            . rename_i a a' len cap cap' h1 h2
              cases hld:h.load a.block a.off len with
              |none=>simp [hld]at hst
              | some l=>
                simp only [hld]at hst
                cases hb:bytesOf l with
                |none=>simp [hb]at hst
                | some r=>
                  simp only [hb]at hst
                  cases hst
                  obtain⟨o1,l',o2,o3⟩:=i9 (P:=P) hh (len:=len) (k:=1) h1 h2 (by rw [Nat.mul_one];exact hld)
                  have o4:=o3 w rfl
                  simp only [Builtin.firstCells,Nat.mul_one]at o4
                  have hf:=fun m=>vC (P:=P) hb o2 ByteArray.empty w m
                  refine⟨.string (fD r),mu,w,?_,hh,Ext.refl mu h w hh,.string _⟩
                  simp only [convert,Sem.run_bind,aM ok hu,aM ok hud,aM ok hue,Result.andThen_ok,Conv.bytesToString,o4]
                  rw [List.forIn_toArray]
                  refine(congrArg (fun q=>Result.andThen q (fun a w'=>Sem.run P (pure (Value.string a)) w')) (hf _)).trans ?_
                  simp [aE]

omit ok in
theorem xN{mu:Mu}{f f':Value}{args:List Value}{args':Array Value}{nx:cR}{h:Hp}{w:World}(ht:target f args=some nx)(hf:ao mu f f')(ha:VL mu args args'.toList):
 Res P mu h w (do let d<-Deferred.ofValue f' args';invoke d.target d.args) h nx:=by
 unfold target at ht
 cases hf<;>(try simp only []at ht)<;>try (cases ht;done)
 . rename_i g x x' y y' h1 h2 h3 h4
   cases ht
   refine⟨rfl,x'++args'++y',by simp [Deferred.ofValue,invoke],?_⟩
   simp only [ye]
   exact LR.append (LR.append ⟨h1,h2⟩ ha) ⟨h3,h4⟩
 . rename_i b c hp
   simp at ht
   subst ht
   exact⟨rfl,c,args',by simp [Deferred.ofValue,invoke],hp,ha⟩

theorem aop_run {mu:Mu} {h h':Hp} {w:World} (hh:aF mu h w) {ρ ρ':Operand->Value} (hρ: ∀x,ao mu (ρ x) (ρ' x)) {o:Oper} {nx:cR} (hl:aop E ρ h o.op=some (nx,h')):
 Res P mu h w (execOp ρ' o) h' nx:=by
 have vlist: ∀l:List Operand,VL mu (l.map ρ) (l.map ρ'):=fun l=>LR.mapSame l hρ
 have pure_: ∀{v:Value},pop E ρ o.op=some v->Res P mu h w (execOp ρ' o) h (.val v):=by
  intro v hv
  obtain⟨v',g1,g2⟩:=pop_run ok hρ hv w
  exact⟨v',mu,w,g1,hh,Ext.refl mu h w hh,g2⟩
 have wr: ∀{r:Option Value},bO h r=some (nx,h')-> ∃v,r=some v/\nx=.val v/\h'=h:=by
  intro r hr
  cases r with
  |none=>cases hr
  |some v=>cases hr;exact⟨v,rfl,rfl,rfl⟩
 have wv: ∀{r:Option (Hp×Value)},cv r=some (nx,h')-> ∃v,r=some (h',v)/\nx=.val v:=by
  intro r hr
  cases r with
  |none=>cases hr
  |some q=>obtain⟨a,b⟩:=q;cases hr;exact⟨b,rfl,rfl⟩
 have wu: ∀{r:Option Hp},eH r=some (nx,h')->r=some h'/\nx=.skip:=by
  intro r hr
  cases r with
  |none=>cases hr
  |some q=>cases hr;exact⟨rfl,rfl⟩
 obtain⟨dst,op,type,pos,after,guard⟩:=o
 simp only []at hl pure_
 unfold execOp
 simp only []
 cases op
 case load t a=>
  obtain⟨v,hv,rfl,rfl⟩:=wr hl
  obtain⟨v',g1,g2⟩:=su ok hh hv (hρ a)
  exact⟨v',mu,w,by simp [g1],hh,Ext.refl mu _ w hh,g2⟩
 case store t a x=>
  obtain⟨hv,rfl⟩:=wu hl
  obtain⟨w',g1,g2,g3⟩:=xa ok hh hv (hρ a) (hρ x)
  exact⟨mu,w',by simp [g1],g2,g3⟩
 case convert s d x=>
  obtain⟨v,hv,rfl⟩:=wv hl
  obtain⟨v',mu',w',g1,g2,g3,g4⟩:=convV_run ok hh hv (hρ x)
  exact⟨v',mu',w',by simp [g1],g2,g3,g4⟩
 case alloc e=>
  simp only [aop]at hl
  cases hz:E.zero e with
  |none=>simp [hz]at hl
  | some z=>
    simp only [hz]at hl
    obtain⟨v,hv,rfl⟩:=wv hl
    cases hv
    obtain⟨zv,z1,z2,z3,z4⟩:=kz ok hz w
    have hr:VL mu z zv.cells.toList:=by
     rw [z2];exact LR.refl fun a ha=>ao.const mu (by simp only [yg]at z4;exact z4 a ha)
    obtain⟨g1,g2⟩:=lO hh (el:=e) hr (fo w (.cells zv.cells e)) (Tr.sized_ofList z) (Tr.get_ofList z)
    exact⟨.pointer (some ⟨w.heap.size,0,none⟩),_,_,by simp [Instr.alloc,z1,newVar,newRow],g1,g2,.ptr (sd mu h.n w.heap.size 0 _)⟩
 case box e x=>
  simp only [aop]at hl
  have hne: ∀y,ρ x≠ .chan y:=by intro y e;rw [e]at hl;cases hl
  have hl':cv (some (nH h (ag (ρ x)) e))=some (nx,h'):=by
   revert hl;cases hr:ρ x<;>intro hl<;>first|exact hl|exact absurd hr (hne _)
  obtain⟨v,hv,rfl⟩:=wv hl'
  cases hv
  have hr:=(hρ x).cells hne
  obtain⟨g1,g2⟩:=lO hh (el:=e) hr (fo w (.cells (ρ' x).cells e)) (Tr.sized_ofList _) (Tr.get_ofList _)
  exact⟨.pointer (some ⟨w.heap.size,0,none⟩),_,_,by simp [Instr.box,newVar,newRow],g1,g2,.ptr (sd mu h.n w.heap.size 0 _)⟩
 case buildSlice t n parts=>
  obtain⟨v,hv,rfl⟩:=wv hl
  have hq:PL mu (parts.toList.map fun p=>(p.1,ρ p.2)) (parts.toList.map fun p=>(p.1,ρ' p.2)):=LR.mapSame _ fun p=>⟨rfl,hρ p.2⟩
  obtain⟨v',mu',w',g1,g2,g3,g4⟩:=rj ok hh hv hq
  have e:(parts.map fun(x:Nat×Operand)=>(x.1,ρ' x.2))=(parts.toList.map fun p=>(p.1,ρ' p.2)).toArray:=by
   apply yw;simp
  refine⟨v',mu',w',?_,g2,g3,g4⟩
  simp only [Sem.run_bind]
  rw [e,g1];rfl
 case makeSlice t l c=>
  obtain⟨v,hv,rfl⟩:=wv hl
  obtain⟨v',mu',w',g1,g2,g3,g4⟩:=rY ok hh hv (hρ l) (hρ c)
  exact⟨v',mu',w',by simp [g1],g2,g3,g4⟩
 case makeMap t r=>
  cases r with
  |some x=>simp only [aop]at hl;obtain⟨v,hv,rfl,rfl⟩:=wr hl;cases hv
  | none=>
    cases hl
    obtain⟨g1,g2⟩:=kc (x:=.map [] 0) (base:=0) (top:=0) hh (fo w (.map #[] 0)) ⟨rfl,#[],rfl,LR.nil⟩
    exact⟨.map (some w.heap.size),_,_,by simp [Instr.makeMap],g1,g2,.map (by unfold cV;rw [upd_same];exact⟨rfl,rfl⟩)⟩
 case lookup t m k q=>
  obtain⟨v,hv,rfl,rfl⟩:=wr hl
  obtain⟨v',g1,g2⟩:=wJ ok hh hv (hρ m) (hρ k)
  exact⟨v',mu,w,by simp [g1],hh,Ext.refl mu _ w hh,g2⟩
 case mapUpdate t m k x=>
  obtain⟨hv,rfl⟩:=wu hl
  obtain⟨w',g1,g2,g3⟩:=qD ok hh hv (hρ m) (hρ k) (hρ x)
  exact⟨mu,w',by simp [g1],g2,g3⟩
 case insert t m k x=>
  obtain⟨hv,rfl⟩:=wu hl
  obtain⟨w',g1,g2,g3⟩:=qD ok hh hv (hρ m) (hρ k) (hρ x)
  exact⟨mu,w',by simp [g1],g2,g3⟩
 case mapEntry t m k=>
  obtain⟨v,hv,rfl⟩:=wv hl
  obtain⟨v',w',g1,g2,g3,g4⟩:=xd ok hh hv (hρ m) (hρ k)
  exact⟨v',mu,w',by simp [g1],g2,g3,g4⟩
 case entryStore t m s x=>
  obtain⟨hv,rfl⟩:=wu hl
  obtain⟨w',g1,g2,g3⟩:=vh (P:=P) (t:=t) hh hv (hρ m) (hρ s) (hρ x)
  exact⟨mu,w',by simp [g1],g2,g3⟩
 case panic x=>
  simp only [aop]at hl
  have hx:=hρ x
  revert hl
  cases hr:ρ x<;>intro hl<;>(try simp only []at hl)<;>try (cases hl;done)
  cases hl
  rw [hr]at hx
  cases hr':ρ' x<;>rw [hr']at hx<;>cases hx
  rename_i hv
  exact⟨rfl,_,by simp only [hr'];rfl,.iface hv⟩
 case defer c=>
  simp only [aop]at hl
  obtain⟨callee,args,argTypes⟩:=c
  cases callee<;>(try simp only []at hl)<;>try (cases hl;done)
  rename_i f
  have hx:=hρ f
  revert hl
  cases hr:ρ f<;>intro hl<;>(try simp only []at hl)<;>try (cases hl;done)
  rename_i fn a b
  cases fn<;>(try simp only []at hl)<;>try (cases hl;done)
  rename_i g
  cases hl
  rw [hr]at hx
  cases hr':ρ' f<;>rw [hr']at hx<;>cases hx
  rename_i a' b' h1 h2 h3 h4
  refine⟨rfl,{target:=.fn (.func g) b',args:=a'++args.map ρ'},?_,?_⟩
  . simp only [resolve,hr',Deferred.ofValue];simp
  . refine⟨b',rfl,⟨h3,h4⟩,?_⟩
    simp only [ye,ya]
    exact LR.append ⟨h1,h2⟩ (vlist _)
 case call c=>
  obtain⟨callee,args,argTypes⟩:=c
  simp only [aop]at hl
  cases callee<;>(try simp only []at hl)<;>try (cases hl;done)
  case value f=>
   cases ht:target (ρ f) (args.toList.map ρ)with
   |none=>simp [ht]at hl
   | some x=>
     simp only [ht]at hl
     cases hl
     have:=xN (P:=P) (h:=h) (w:=w) (args':=args.map ρ') ht (hρ f) (by rw [ya];exact vlist _)
     exact this
  case builtin b =>
   have arr0: ∀{x:Operand} {l:List Operand},args.toList=x::l->(args.map ρ')[0]? =some (ρ' x):=by
    intro x l e;rw [<-xW,ya,e];rfl
   have arr1: ∀{x y:Operand} {l:List Operand},args.toList=x::y::l->(args.map ρ')[1]? =some (ρ' y):=by
    intro x y l e;rw [<-xW,ya,e];rfl
   have plain: ∀{v:Value},pop E ρ (.call ⟨.builtin b,args,argTypes⟩)=some v->nx=.val v->h'=h->Res P mu h w (do let d<-resolve ρ' ⟨.builtin b,args,argTypes⟩ type;invoke d.target d.args) h' nx:=by
    intro v hv e1 e2
    subst e1;subst e2
    exact pure_ hv
   cases b
   case append=>
    simp only []at hl
    cases ha:args.toList with
    |nil=>simp [ha]at hl
    | cons x l=>
      cases l with
      |nil=>simp [ha]at hl
      | cons y l=>
        simp only [ha]at hl
        obtain⟨v,hv,rfl⟩:=wv hl
        obtain⟨v',mu',w',g1,g2,g3,g4⟩:=vH ok hh (ty:=type) (arr0 ha) (arr1 ha) hv (hρ x) (hρ y)
        exact⟨v',mu',w',by simp [resolve,invoke,builtin,g1],g2,g3,g4⟩
   case copy=>
    simp only []at hl
    cases ha:args.toList with
    |nil=>simp [ha]at hl
    | cons x l=>
      cases l with
      |nil=>simp [ha]at hl
      | cons y l=>
        simp only [ha]at hl
        obtain⟨v,hv,rfl⟩:=wv hl
        obtain⟨v',mu',w',g1,g2,g3,g4⟩:=copyV_run ok hh (ty:=type) (arr0 ha) (arr1 ha) hv (hρ x) (hρ y)
        exact⟨v',mu',w',by simp [resolve,invoke,builtin,g1],g2,g3,g4⟩
   case delete=>
    simp only []at hl
    cases ht:argTypes.toList with
    |nil=>simp [ht]at hl
    | cons t ts=>
      cases ha:args.toList with
      |nil=>simp [ht,ha]at hl
      | cons x l=>
        cases l with
        |nil=>simp [ht,ha]at hl
        | cons y l=>
          simp only [ht,ha]at hl
          cases hd:jX E h t (ρ x) (ρ y)with
          |none=>simp [hd]at hl
          | some h2=>
            simp only [hd]at hl
            cases hl
            obtain⟨w',g1,g2,g3⟩:=xt ok hh (ty:=type) (ts:=argTypes) (by rw [<-xW,ht];rfl) (arr0 ha) (arr1 ha) hd (hρ x) (hρ y)
            exact⟨.tuple #[],mu,w',by simp [resolve,invoke,builtin,g1],g2,g3,.tuple rfl (by intro i v v' hv;simp at hv)⟩
   case recover=>
    simp only []at hl
    cases hl
    exact⟨rfl,by simp [resolve,invoke,builtin]⟩
   case len =>
    simp only []at hl
    cases hp:pop E ρ (.call ⟨.builtin .len,args,argTypes⟩)with
    |some v=>simp only [hp]at hl;cases hl;exact plain hp rfl rfl
    | none=>
      simp only [hp]at hl
      cases ha:args.toList with
      |nil=>simp [ha]at hl
      | cons x l =>
        simp only [ha]at hl
        have hx:=hρ x
        revert hl
        cases hr:ρ x<;>intro hl<;>(try simp only []at hl)<;>try (cases hl;done)
        rename_i r
        cases r with
        |none=>simp at hl
        | some r =>
          simp only []at hl
          rw [hr]at hx
          cases hg:h.get r with
          |none=>simp [hg]at hl
          | some y=>
            simp only [hg]at hl
            cases y<;>(try simp only []at hl)<;>try (cases hl;done)
            rename_i es clock
            cases ht:argTypes.toList with
            |nil=>simp [ht]at hl
            | cons t ts=>
              simp only [ht]at hl
              cases hu:E.und t with
              |none=>simp [hu]at hl
              | some d=>
                simp only [hu]at hl
                cases d<;>(try simp only []at hl)<;>try (cases hl;done)
                cases hl
                cases hr':ρ' x<;>rw [hr']at hx<;>cases hx
                rename_i c hpr
                obtain⟨top,es',k1,k2,k3⟩:=rf hh hpr hg
                have e0:argTypes[0]? =some t:=by rw [<-xW,ht];rfl
                have e1:=arr0 ha
                rw [hr']at e1
                have hlen:es.length=es'.size:=k3.1
                refine⟨.int .i64 es'.size,mu,w,?_,hh,Ext.refl mu _ w hh,by rw [hlen];exact .int _ _⟩
                have:(Builtin.len_ argTypes type (args.map ρ')).run P w=.ok (.int .i64 es'.size) w:=by
                 unfold Builtin.len_
                 simp only [e0,e1,Sem.run_bind,aM ok hu,Result.andThen_ok,h9 k2]
                 rfl
                simp [resolve,invoke,builtin,this]
   all_goals (simp only []at hl;obtain⟨v,hv,e1,e2⟩:=wr hl;exact plain hv e1 e2)
 all_goals (simp only [aop]at hl;obtain⟨v,hv,rfl,rfl⟩:=wr hl;exact pure_ hv)
end
end Go.Ab

namespace Go.Ab
noncomputable section

structure Loc where
 regs:Tr Value
 dfs:List Deferred
 rc:Option (Value×Bool)

def Loc.ev(l:Loc):Operand->Value
 | .tmp t=>match l.regs.get t with
   |some v=>v
   |none=>.tuple #[]
 | .const v=>bif bZ v then v else poison
 | .global g=>bif Nat.blt g 16 then .pointer (some ⟨g,0,none⟩)else poison
 | .func f=>.func (.func f) #[] #[]
def Loc.put(l:Loc)(d:Option Tmp)(v:Value):Loc:=match d with
 |none=>l
 |some t=>{l with regs:=l.regs.set t v}

inductive Ex where
 |normal
 |exit (id:Nat)
 |ret
 |pan (v:Value)

inductive Out where
 |ret (v:Value)
 |pan (v:Value)

structure Cx where
 fn:FuncId
 nr:Nat
 round:Option Nat

structure Rec where
 call:FuncId->List Value->Option (Value×Bool)->Hp->Option (Out×Option (Value×Bool)×Hp)
 code:Cx->Code->Loc->Hp->Option (Ex×Loc×Hp)

def kU(regs:Tr Value):List Tmp->List Value->Option (Tr Value)
 | [],[]=>some regs
 |t::ts,v::vs=>kU (regs.set t v) ts vs
 |_,_=>none
def g9 (E:Env) (R:Rec) (b:Nat) (args:List Value) (h:Hp):Option (Out×Hp):=match h.get b with
 | some (.loop r)=>bif (E.fn r.fn).isSome then match r.st with
   | 0 =>match kU r.regs r.params.toList args with
     |none=>none
     | some regs=>match R.code ⟨r.fn,r.nr,some b⟩ r.assign ⟨regs,[],none⟩ h with
       | some (.normal,l,h1)=>match h1.get b with
         | some (.loop r1)=>match r1.st with
           | 0 =>match R.code ⟨r.fn,r.nr,some b⟩ r.body l (h1.put b (.loop {r1 with st:=1}))with
             | some (.normal,_,h2)=>match h2.get b with
               |some (.loop r2)=>some (.ret (.bool true),h2.put b (.loop {r2 with st:=0,pending:=none}))
               |_=>none
             | some (.exit id,_,h2)=>match h2.get b with
               |some (.loop r2)=>some (.ret (.bool false),h2.put b (.loop {r2 with st:=2,pending:=some (.exit id)}))
               |_=>none
             | some (.ret,_,h2)=>match h2.get b with
               |some (.loop r2)=>some (.ret (.bool false),h2.put b (.loop {r2 with st:=2,pending:=some .ret}))
               |_=>none
             | some (.pan v,l2,h2)=>match l2.dfs with
               | []=>some (.pan v,h2)
               |_=>none
             |none=>none
           |_=>none
         |_=>none
       |_=>none
   |_=>none
   else none
 |_=>none

def bQ (ops:List Oper) (regs:Tr Value) (o:Oper):Option Bool:=match o.guard with
 |none=>some true
 | some (j,want)=>match ops[j]? with
   |none=>some false
   | some o'=>match o'.dst with
     |none=>some false
     | some d=>match regs.get d with
       |some (.bool b)=>some (bif b then want else !want)
       |some (.tuple _)=>some false
       |_=>none

def ct(E:Env)(R:Rec):Option (cR×Hp)->Option (Out×Hp)
 |some (.val v,h')=>some (.ret v,h')
 |some (.skip,h')=>some (.ret (.tuple #[]),h')
 | some (.call f args,h')=>match R.call f args none h' with
   |some (x,_,h'')=>some (x,h'')
   |none=>none
 |some (.yield b args,h')=>g9 E R b args h'
 |some (.panic v,h')=>some (.pan v,h')
 |some (.recov,_)=>none
 |some (.defer _,_)=>none
 |none=>none
def kJ(o:Oper)(l:Loc):Option (Out×Hp)->Option (Ex×Loc×Hp)
 |some (.ret v,h')=>some (.normal,l.put o.dst v,h')
 |some (.pan v,h')=>some (.pan v,l,h')
 |none=>none
def dk(E:Env)(R:Rec)(cx:Cx)(o:Oper)(l:Loc)(h:Hp):Option (Ex×Loc×Hp):=match aop E l.ev h o.op with
 | some (.recov,h')=>match cx.round with
   |some _=>none
   | none=>match l.rc with
     |some (v,false)=>some (.normal,({l with rc:=some (v,true)}:Loc).put o.dst v,h')
     |_=>some (.normal,l.put o.dst .nilIface,h')
 | some (.defer d,h')=>match cx.round with
   |some _=>none
   |none=>some (.normal,({l with dfs:=d::l.dfs}:Loc).put o.dst (.tuple #[]),h')
 |r=>kJ o l (ct E R r)

def ig(E:Env)(R:Rec)(cx:Cx)(ops:List Oper):List Oper->Loc->Hp->Option (Ex×Loc×Hp)
 | [],l,h=>some (.normal,l,h)
 | o ::os,l,h=>match bQ ops l.regs o with
   |none=>none
   |some false=>ig E R cx ops os (l.put o.dst (.tuple #[])) h
   | some true=>match dk E R cx o l h with
     |some (.normal,l',h')=>ig E R cx ops os l' h'
     |r=>r

def cls(E:Env):Op->Nat
 | .move _| .assign _| .pick .. | .nilCheck _| .binOp .. | .unOp .. | .makeInterface .. | .makeFunc .. | .slice .. | .fieldAddr .. | .field ..
 | .indexAddr .. | .index .. | .extract .. | .build .. | .typeAssert .. =>0
 | .convert src dst _=>match E.und src,E.und dst with
   |some (.slice _),_=>1
   |some .string,some (.slice _)=>4
   |_,_=>0
 | .load .. | .lookup .. =>1
 | .store .. | .insert .. | .mapUpdate .. | .mapEntry .. | .entryStore .. =>2
 | .alloc _| .box .. | .buildSlice .. | .makeSlice .. | .makeMap .. =>4
 | .call c=>match c.callee with
   | .builtin .min| .builtin .max=>0
   | .builtin .len=>1
   | .builtin .delete| .builtin .copy=>2
   | .builtin .append=>5
   |_=>3
 |_=>3
def touch(ρ:Operand->Value):Op->Option Nat
 | .load _ a| .store _ a _=>match ρ a with
   | .pointer (some a)=>some a.block
   |_=>none
 | .lookup _ m _ _| .insert _ m _ _| .mapUpdate _ m _ _| .mapEntry _ m _| .entryStore _ m _ _=>match ρ m with
   | .map r=>r
   |_=>none
 | .convert _ _ x=>match ρ x with
   | .slice (some a) _ _=>some a.block
   |_=>none
 | .call c=>match c.args.toList with
   | x::_=>match ρ x with
     | .map r=>r
     | .slice (some a) _ _=>some a.block
     |_=>none
   |_=>none
 |_=>none
def befs :List Oper->List Nat->Option (List Nat)
 | [],acc=>some acc
 | o ::os,acc=>match(o.after.toList.foldl (fun s e=>match s with
     |none=>none
     | some s=>match e.ground with
       | .textOnly _=>some s
       | .gcOnly _=>some s
       | _=>match acc[acc.length-1-e.on]? with
         |none=>none
         |some m=>bif Nat.blt e.on acc.length then some (yl (yl s (yo 2 e.on)) m)else none) (some 0))with
   |none=>none
   |some s=>befs os (s::acc)
def ir (ops:List Oper) (o:Oper):List Tmp:=
 o.dst.toList++(o.op.operands.toList.filterMap fun x=>match x with| .tmp t=>some t|_=>none)++
  (match o.guard with
    |none=>[]
    | some (j,_)=>match ops[j]? with
      |none=>[]
      |some o'=>o'.dst.toList)
def memb(t:Nat):List Nat->Bool
 | []=>false
 |x::l=>xX t x||memb t l
def oK(ops:List Oper)(o p:Oper):Bool:=
 (match o.dst with|none=>true|some t=>!memb t (ir ops p))&&(match p.dst with|none=>true|some t=>!memb t (ir ops o))
def iE:Op->Op->Bool
 | .mapEntry t _ _,.lookup t' _ _ ok=>!ok&&xX t t'
 |_,_=>false
def dm:Op->Bool
 | .call c=>match c.callee with
   | .builtin _=>false
   |_=>true
 |_=>false
def dZ:Op->Bool
 | .alloc _=>true
 |_=>false
def ia (E:Env) (ops:List Oper) (o:Oper) (m n:Nat):List Oper->Nat->Nat×List (Nat×Nat)->Option (Nat×List (Nat×Nat))
 | [],_,r=>some r
 | p ::ps,i,(q,l)=>bif Nat.testBit m i then ia E ops o m n ps (i+1) (q,l)else
   bif oK ops o p then
    match cls E o.op,cls E p.op with
    |0,_=>ia E ops o m n ps (i+1) (q,l)
    |_,0=>ia E ops o m n ps (i+1) (q,l)
    |1,1=>ia E ops o m n ps (i+1) (q,l)
    |2,1=>ia E ops o m n ps (i+1) (q,bif iE o.op p.op then l else(i,n)::l)
    |1,2=>ia E ops o m n ps (i+1) (q,bif iE p.op o.op then l else(i,n)::l)
    |5,1=>ia E ops o m n ps (i+1) (q,(i,n)::l)
    |1,5=>ia E ops o m n ps (i+1) (q,(i,n)::l)
    |3,1=>bif dm o.op then ia E ops o m n ps (i+1) (q,(i,n)::l)else ia E ops o m n ps (i+1) (yl (yo 2 n) q,l)
    |1,3=>bif dm p.op then ia E ops o m n ps (i+1) (q,(i,n)::l)else ia E ops o m n ps (i+1) (yl (yo 2 i) q,l)
    |3,4=>bif dm o.op&&dZ p.op then ia E ops o m n ps (i+1) (q,(i,n)::l)else ia E ops o m n ps (i+1) (yl (yo 2 n) q,l)
    |2,_=>none
    |_,2=>none
    |c,d=>ia E ops o m n ps (i+1)
     (yl (bif xX d 3||xX d 5 then yo 2 i else 0) (yl (bif xX c 3||xX c 5 then yo 2 n else 0) q),l)
   else none
def pF(E:Env)(ops:List Oper):List Oper->List Nat->Nat->Nat×List (Nat×Nat)->Option (Nat×List (Nat×Nat))
 | [],_,_,r=>some r
 | o::os,m::ms,n,r=>match ia E ops o m n (ops.take n) 0 r with
   |none=>none
   |some (q,l)=>pF E ops os ms (n+1) (bif xX (cls E o.op) 4 then yl (yo 2 n) q else q,l)
 |_,[],_,_=>none
def plan(E:Env)(ops:List Oper):Option (Nat×List (Nat×Nat)):=match befs ops []with
 |none=>none
 |some ms=>pF E ops ops ms.reverse 0 (0,[])

def tmpsOf:List Operand->List Tmp
 | []=>[]
 | .tmp t::l=>t::tmpsOf l
 |_::l=>tmpsOf l
def Loc.evD(l:Loc)(ts:List Tmp):Operand->Value
 | .tmp t=>bif memb t ts then l.ev (.tmp t)else poison
 |x=>l.ev x
def dS(E:Env)(q i:Nat)(o:Op):Bool:=Nat.testBit q i&&Nat.ble 3 (cls E o)
def cd(E:Env)(R:Rec)(ρ:Operand->Value)(quiet:Bool)(o:Oper)(h:Hp):Option (Value×Hp):=
 bif quiet then
  match ct E R (aop E ρ {h with lo:=h.n} o.op)with
  |some (.ret v,h')=>bif Nat.ble h.n h'.lo then some (v,{h' with lo:=h.lo})else none
  |_=>none
 else match ct E R (aop E ρ h o.op)with
  |some (.ret v,h')=>some (v,h')
  |_=>none
inductive Tch where
 |blk (b:Nat)
 |run (h h':Hp)
def iW(ρ:Operand->Value)(op:Op)(h:Hp):Option Nat:=bif dZ op then some h.n else touch ρ op
def cb(ρ:Operand->Value)(quiet:Bool)(op:Op)(h h':Hp):Option Tch:=
 bif dm op then(bif quiet then none else some (.run h h'))else match iW ρ op h with
  |none=>none
  |some b=>some (.blk b)
def fQ(i:Nat)(tr:List (Nat×Tch)):Option Tch->List (Nat×Tch)
 |none=>tr
 |some b=>(i,b)::tr
def dB(E:Env)(R:Rec)(ops:List Oper)(q:Nat):List Oper->Nat->Loc->Hp->List (Nat×Tch)->Option (Loc×Hp×List (Nat×Tch))
 | [],_,l,h,tr=>some (l,h,tr)
 | o ::os,i,l,h,tr=>match bQ ops l.regs o with
   |none=>none
   |some false=>dB E R ops q os (i+1) (l.put o.dst (.tuple #[])) h tr
   | some true=>match cd E R (l.evD (tmpsOf o.op.operands.toList)) (dS E q i o.op) o h with
     |none=>none
     |some (v,h')=>dB E R ops q os (i+1) (l.put o.dst v) h' (fQ i tr (cb (l.evD (tmpsOf o.op.operands.toList)) (dS E q i o.op) o.op h h'))
def bN(i:Nat):List (Nat×Tch)->Option Tch
 | []=>none
 |(k,b)::l=>bif xX i k then some b else bN i l
def sameAddr(a b:Addr):Bool:=xX a.block b.block&&xX a.off b.off&&(match a.spot,b.spot with
 |none,none=>true
 |some i,some j=>xX i j
 |_,_=>false)
def nj(a b:Value):Bool:=match cQ a b with
 |some t=>t
 | none=>match a,b with
   | .pointer none,.pointer none=>true
   | .pointer (some x),.pointer (some y)=>sameAddr x y
   | .slice none n m,.slice none n' m'=>xX n n'&&xX m m'
   | .slice (some x) n m,.slice (some y) n' m'=>sameAddr x y&&(xX n n'&&xX m m')
   | .map none,.map none=>true
   | .map (some x),.map (some y)=>xX x y
   | .nilFunc,.nilFunc=>true
   | .nilIface,.nilIface=>true
   |_,_=>false
def oU:List Value->List Value->Bool
 | [],[]=>true
 |x::l,y::m=>nj x y&&oU l m
 |_,_=>false
def re(a b:Value):Bool:=match a,b with
 | .func (.func g) x y,.func (.func g') x' y'=>xX g g'&&(oU x.toList x'.toList&&oU y.toList y'.toList)
 | .iface t x,.iface t' y=>xX t t'&&nj x y
 |_,_=>nj a b
def sameT:Tr Value->Tr Value->Bool
 | .nil,.nil=>true
 | .node x l r,.node x' l' r'=>re x x'&&(sameT l l'&&sameT r r')
 |_,_=>false
def sameE:List (Value×Value×Nat)->List (Value×Value×Nat)->Bool
 | [],[]=>true
 |(k,x,n)::l,(k',y,m)::l'=>nj k k'&&(re x y&&(xX n m&&sameE l l'))
 |_,_=>false
def sameB(x y:Blk):Bool:=(match x,y with
 | .cells t n e m,.cells t' n' e' m'=>sameT t t'&&(xX n n'&&(xX e e'&&xX m m'))
 | .map es c,.map es' c'=>xX c c'&&sameE es es'
 |_,_=>false)|| @decide (x=y) (Classical.propDecidable _)
def leaves(h h':Hp)(b:Nat):Bool:=match h.get b,h'.get b with
 |some x,some y=>sameB x y
 |none,none=>true
 |_,_=>false
def iP:Option Tch->Option Tch->Bool
 |some (.blk a),some (.blk b)=>!Nat.beq a b
 |some (.blk a),some (.run h h')=>leaves h h' a
 |some (.run h h'),some (.blk a)=>leaves h h' a
 |some (.run _ _),some (.run _ _)=>false
 |_,_=>true
def dK(tr:List (Nat×Tch)):List (Nat×Nat)->Bool
 | []=>true
 |(i,j)::l=>iP (bN i tr) (bN j tr)&&dK tr l

def oC(o:Oper):Bool:=dZ o.op&&o.guard.isNone
def freeAt(ops:List Oper)(i:Nat):Bool:=match ops[i]? with
 |some o=>oC o
 |none=>false
def ordL(ops:List Oper):List Nat:=(List.range ops.length).filter (freeAt ops)++(List.range ops.length).filter fun i=>!freeAt ops i
def fj(i:Nat):List Nat->Nat
 | []=>0
 |x::l=>bif xX i x then 0 else fj i l+1
def reix(ord:List Nat)(o:Oper):Oper:={o with after:=o.after.map fun e=>{e with on:=fj e.on ord},guard:=match o.guard with
 |none=>none
 |some (j,w)=>some (fj j ord,w)}
def fh(ops:List Oper)(ord:List Nat):List Nat->List Oper
 | []=>[]
 | i::l=>match ops[i]? with
   |none=>fh ops ord l
   |some o=>reix ord o::fh ops ord l
def mY(n:Nat)(o:Oper):Bool:=match o.guard with
 |none=>true
 |some (j,_)=>Nat.blt j n
def dQ(ops:List Oper):List Oper:=bif ops.any oC&&ops.all (mY ops.length)then fh ops (ordL ops) (ordL ops)else ops

def gk (R:Rec) (cx:Cx) (f:Value) (params:Array Tmp) (assign body:Code) (l:Loc) (h:Hp):Option (Ex×Loc×Hp):=
 match f with
 | .func (.func g) a b=>
   match(match cx.round with
    |none=>some (h.new .dfr,h.n,({target:=.collected h.n,args:=#[]}:Deferred)::l.dfs)
    | some r=>match h.get r with
      |some (.loop x)=>some (h,x.defers,l.dfs)
      |_=>none)with
   |none=>none
   | some (h1,d,dfs)=>
     match R.call g (a.toList++[.func (.yield h1.n) #[] #[]]++b.toList) none
      (h1.new (.loop {fn:=cx.fn,regs:=l.regs,nr:=cx.nr,params,assign,body,st:=0,pending:=none,defers:=d}))with
     |none=>none
     |some (.pan v,_,h2)=>some (.pan v,{l with dfs:=dfs},h2)
     | some (.ret _,_,h2)=>match h2.get h1.n with
       | some (.loop x)=>match x.st with
         |1=>none
         | _=>match x.pending with
           |none=>some (.normal,{l with dfs:=dfs},h2.put h1.n .dead)
           |some (.exit id)=>some (.exit id,{l with dfs:=dfs},h2.put h1.n .dead)
           |some .ret=>some (.ret,{l with dfs:=dfs},h2.put h1.n .dead)
           |_=>none
       |_=>none
 |_=>none

def aD (E:Env) (R:Rec) (cx:Cx):Code->Loc->Hp->Option (Ex×Loc×Hp)
 | .skip,l,h=>some (.normal,l,h)
 | .label _,l,h=>some (.normal,l,h)
 | .region _ ops draw,l,h=>bif draw then
  match plan E (dQ ops.toList)with
  |none=>none
  | some (q,ps)=>match dB E R (dQ ops.toList) q (dQ ops.toList) 0 l h []with
    |none=>none
    |some (l',h',tr)=>bif dK tr ps then some (.normal,l',h')else none
   else ig E R cx ops.toList ops.toList l h
 | .seq a b,l,h=>match aD E R cx a l h with
   |some (.normal,l',h')=>aD E R cx b l' h'
   |r=>r
 | .cond c a b,l,h=>match l.ev c with
   | .bool t=>bif t then aD E R cx a l h else aD E R cx b l h
   |_=>none
 | .block id b,l,h=>match aD E R cx b l h with
   |some (.exit i,l',h')=>bif xX i id then some (.normal,l',h')else some (.exit i,l',h')
   |r=>r
 | .loop b,l,h=>match aD E R cx b l h with
   |some (.normal,l',h')=>R.code cx (.loop b) l' h'
   |r=>r
 | .rangeFunc f params assign body,l,h=>gk R cx (l.ev f) params assign body l h
 | .exit id,l,h=>some (.exit id,l,h)
 | .scope b,l,h=>aD E R cx b l h
 | .goto _,_,_=>none
 | .ret,l,h=>some (.ret,l,h)
 | .refuse _,_,_=>none

def bH (R:Rec):List Deferred->Option Value->Hp->Option (Option Value×Hp)
 | [],m,h=>some (m,h)
 | d ::ds,m,h=>match d.target with
   | .collected b=>match h.get b with
     |some .dfr=>bH R ds m (h.put b .dead)
     |_=>none
   | .fn (.func f) cap=>match R.call f (d.args.toList++cap.toList) (match m with|none=>none|some v=>some (v,false)) h with
     | some (.ret _,rc,h')=>match m,rc with
       |none,none=>bH R ds none h'
       |some _,some (_,true)=>bH R ds none h'
       |some _,some (v,false)=>bH R ds (some v) h'
       |_,_=>none
     |_=>none
   |_=>none
def aR(E:Env)(regs:Tr Value)(h:Hp):List ResultVar->Option (List Value)
 | []=>some []
 | .tmp t::rs=>match aR E regs h rs with
   |none=>none
   |some l=>some ((match regs.get t with|some v=>v|none=>.tuple #[])::l)
 | .cell a t::rs=>match dP E h t (match regs.get a with|some v=>v|none=>.tuple #[])with
   |none=>none
   | some v=>match aR E regs h rs with
     |none=>none
     |some l=>some (v::l)
def ab:List Value->Value
 | [v]=>v
 |l=>.tuple ⟨l⟩
def iR (E:Env) (R:Rec) (f:FuncId) (args:List Value) (rc:Option (Value×Bool)) (h:Hp):Option (Out×Option (Value×Bool)×Hp):=
 match E.fn f with
 |none=>none
 | some fn=>match fn.body with
   |none=>none
   | some body=>
     bif Nat.ble args.length fn.ntmps then
     match R.code ⟨f,fn.ntmps,none⟩ body ⟨(Tr.blank (.tuple #[]) fn.ntmps fn.ntmps).setAll 0 args,[],rc⟩ h with
     |none=>none
     |some (.exit _,_,_)=>none
     | some (.pan v,l,h')=>match bH R l.dfs (some v) h' with
       |none=>none
       |some (some v,h'')=>some (.pan v,l.rc,h'')
       | some (none,h'')=>match aR E l.regs h'' fn.results.toList with
         |none=>none
         |some vs=>some (.ret (ab vs),l.rc,h'')
     | some (_,l,h')=>match bH R l.dfs none h' with
       | some (none,h'')=>match aR E l.regs h'' fn.results.toList with
         |none=>none
         |some vs=>some (.ret (ab vs),l.rc,h'')
       |_=>none
     else none

def gG(E:Env)(R:Rec)(f:FuncId)(args:List Value)(rc:Option (Value×Bool))(h:Hp):Option (Out×Option (Value×Bool)×Hp):=
 match E.orc f args with
 |none=>iR E R f args rc h
 | some v=>match rc with
   |none=>some (.ret v,none,h)
   |some _=>none

def next(E:Env)(R:Rec):Rec:={call:=gG E R,code:=aD E R}
def bot:Rec:={call:=fun _ _ _ _=>none,code:=fun _ _ _ _=>none}
def run(E:Env):Nat->Rec
 |0=>bot
 |n+1=>next E (run E n)
end
end Go.Ab

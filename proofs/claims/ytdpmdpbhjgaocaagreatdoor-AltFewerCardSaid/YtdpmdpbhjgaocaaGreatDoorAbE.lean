/- A deterministic evaluator of the model's code, and that the model follows it (part 5). -/
import Derived.Test.YtdpmdpbhjgaocaaGreatDoorAbD
import Derived.WalkKit
import Derived.ProofKit
import Derived.OpenShut
import Derived.Carry
open List renaming mem_of_getElem?->xW,getElem?_append_right->yb,getElem?_map->yc,getElem?_append_left->yd,map_congr_left->yg,mem_cons_self->yh,length_append->yi,append_assoc->yj,replicate->yk,mem_append_right->yl,filterMap_cons_some->yo,length_replicate->yr,filterMap_append->yt,mem_cons_of_mem->yv,mem_append_left->yw,filterMap_cons->yy,getElem?_set->yz,drop_eq_getElem_cons->yA,getElem?_replicate->yC,mem_map_of_mem->yG
open Nat renaming ble_eq_true_of_le->xX,ble->xY,le_refl->ya,beq->yf,lt_or_ge->yn,eq_of_beq_eq_true->yq,le_trans->yu,beq_refl->yx,blt->yB,le_mul_of_pos_right->yD,blt_eq->yF
open Iff renaming rfl->xZ
open Array renaming getElem?_eq_getElem->ye,map_congr_left->yE
open Bool renaming and_eq_true->ym
open Option renaming map_eq_some_iff->yp
set_option maxHeartbeats 400000
set_option linter.defProp false
set_option linter.unusedVariables false
set_option linter.unusedSimpArgs false
namespace Go.Ab

def eN(E:Env)(f:FuncId)(args:List Value)(rc:Option (Value×Bool))(h:Hp)(Q:Out->Option (Value×Bool)->Hp->Prop):Prop:= ∃o rc' h',(lim E).call f args rc h=some (o,rc',h')/\Q o rc' h'
def Ret(E:Env)(f:FuncId)(args:List Value)(h:Hp)(Q:Value->Hp->Prop):Prop:= ∃v h',(lim E).call f args none h=some (.ret v,none,h')/\Q v h'
theorem Ret.mono{E:Env}{f:FuncId}{args:List Value}{h:Hp}{Q Q':Value->Hp->Prop}(k: ∀v h',Q v h'->Q' v h')(r:Ret E f args h Q):Ret E f args h Q':=by
 obtain⟨v,h',a,b⟩:=r;exact⟨v,h',a,k v h' b⟩
def jt(E:Env)(b:Nat)(args:List Value)(h:Hp)(Q:Out->Hp->Prop):Prop:= ∃o h',g9 E (lim E) b args h=some (o,h')/\Q o h'

section
variable(E:Env)(cx:Cx)(o:Oper)(l:Loc)(K:Ex->Loc->Hp->Prop)
def eh:Option (cR×Hp)->Prop
 |some (.val v,h')=>K .normal (l.put o.dst v) h'
 |some (.skip,h')=>K .normal (l.put o.dst (.tuple #[])) h'
 | some (.call f args,h')=>eN E f args none h' fun x _ h''=>match x with
   | .ret v=>K .normal (l.put o.dst v) h''
   | .pan v=>K (.pan v) l h''
 | some (.yield b args,h')=>jt E b args h' fun x h''=>match x with
   | .ret v=>K .normal (l.put o.dst v) h''
   | .pan v=>K (.pan v) l h''
 |some (.panic v,h')=>K (.pan v) l h'
 | some (.recov,h')=>cx.round=none/\match l.rc with
   |some (v,false)=>K .normal (({l with rc:=some (v,true)}:Loc).put o.dst v) h'
   |_=>K .normal (l.put o.dst .nilIface) h'
 |some (.defer d,h')=>cx.round=none/\K .normal (({l with dfs:=d::l.dfs}:Loc).put o.dst (.tuple #[])) h'
 |none=>False
end
section
variable{E:Env}{cx:Cx}{o:Oper}{l:Loc}{K:Ex->Loc->Hp->Prop}{h:Hp}
theorem then_step:Then (dk E (lim E) cx o l h) K↔eh E cx o l K (aop E l.ev h o.op):=by
 unfold dk
 cases hx:aop E l.ev h o.op with
 | none=>
   simp only [eh,ct,kJ]
   exact⟨fun⟨_,_,_,h1,_⟩=>(by cases h1),fun h=>h.elim⟩
 | some q=>
   obtain⟨nx,h1⟩:=q
   cases nx with
   |val v=>exact fm
   |skip=>exact fm
   |panic v=>exact fm
   | call f args=>
     simp only [eh,ct,eN]
     constructor
     . intro⟨e,l',h',a,b⟩
       cases hc:(lim E).call f args none h1 with
       |none=>rw [hc]at a;cases a
       | some q=>
         obtain⟨x,rc,h2⟩:=q
         rw [hc]at a
         cases x<;>(cases a;exact⟨_,_,_,rfl,b⟩)
     . intro⟨x,rc,h2,a,b⟩
       rw [a]
       cases x<;>exact⟨_,_,_,rfl,b⟩
   | yield b args=>
     simp only [eh,ct,jt]
     constructor
     . intro⟨e,l',h',a,c⟩
       cases hc:g9 E (lim E) b args h1 with
       |none=>rw [hc]at a;cases a
       | some q=>
         obtain⟨x,h2⟩:=q
         rw [hc]at a
         cases x<;>(cases a;exact⟨_,_,rfl,c⟩)
     . intro⟨x,h2,a,c⟩
       rw [a]
       cases x<;>exact⟨_,_,_,rfl,c⟩
   | recov=>
     simp only [eh]
     cases cx.round with
     |some r=>simp only [];exact⟨fun⟨_,_,_,h1,_⟩=>(by cases h1),fun h=>(by cases h.1)⟩
     | none=>
       simp only [true_and]
       cases l.rc with
       |none=>exact fm
       |some y=>obtain⟨v,b⟩:=y;cases b<;>exact fm
   | defer d=>
     simp only [eh]
     cases cx.round with
     |some r=>simp only [];exact⟨fun⟨_,_,_,h1,_⟩=>(by cases h1),fun h=>(by cases h.1)⟩
     |none=>simp only [true_and];exact fm
theorem tG{v:Value}:eh E cx o l K (some (.val v,h))↔K .normal (l.put o.dst v) h:=xZ
theorem rU:eh E cx o l K (some (.skip,h))↔K .normal (l.put o.dst (.tuple #[])) h:=xZ
theorem rE{v:Value}:eh E cx o l K (some (.panic v,h))↔K (.pan v) l h:=xZ
theorem step_ret{f:FuncId}{args:List Value}{Q:Value->Hp->Prop}(hr:Ret E f args h Q)(hk: ∀v h',Q v h'->K .normal (l.put o.dst v) h'):eh E cx o l K (some (.call f args,h)):=by
 obtain⟨v,h',a,b⟩:=hr
 exact⟨.ret v,none,h',a,hk v h' b⟩
end

def lI(E:Env)(rs:List ResultVar)(Q:Out->Option (Value×Bool)->Hp->Prop):dW
 | .exit _,_,_=>False
 | .pan v,l,h=> ∃m h',bH (lim E) l.dfs (some v) h=some (m,h')/\match m with
   |some v=>Q (.pan v) l.rc h'
   |none=> ∃vs,aR E l.regs h' rs=some vs/\Q (.ret (ab vs)) l.rc h'
 | .normal,l,h=> ∃h',bH (lim E) l.dfs none h=some (none,h')/\ ∃vs,aR E l.regs h' rs=some vs/\Q (.ret (ab vs)) l.rc h'
 | .ret,l,h=> ∃h',bH (lim E) l.dfs none h=some (none,h')/\ ∃vs,aR E l.regs h' rs=some vs/\Q (.ret (ab vs)) l.rc h'

theorem enter{E:Env}{f:FuncId}{fn:Func}{body:Code}{n:Nat}{rs:List ResultVar}{args:List Value}{rc:Option (Value×Bool)}{h:Hp}{Q:Out->Option (Value×Bool)->Hp->Prop}
 (ho:E.orc f args=none) (hf:E.fn f=some fn) (hb:fn.body=some body) (hn:fn.ntmps=n) (hrs:fn.results.toList=rs) (hle:args.length<=n)
 (hr:Run E (lim E) ⟨f,n,none⟩ (lI E rs Q) [.code body] .normal (LL n (ce args) [] rc) h):eN E f args rc h Q:=by
 obtain⟨e,l,h',h1,h2⟩:=hr
 simp only [Run]at h2
 unfold eN
 rw [call_eq]
 unfold gG
 rw [ho]
 simp only []
 unfold iR
 rw [hf]
 simp only []
 rw [hb]
 simp only []
 rw [hn,xX hle]
 simp only [cond_true]
 rw [args_tab hle]
 have hcode:(lim E).code ⟨f,n,none⟩ body ⟨tab n (ce args),[],rc⟩ h=some (e,l,h'):=by rw [rS];exact h1
 rw [hcode,hrs]
 cases e with
 |exit i=>exact h2.elim
 | pan v=>
   obtain⟨m,h3,a,b⟩:=h2
   simp only [a]
   cases m with
   |some v=>exact⟨_,_,_,rfl,b⟩
   |none=>obtain⟨vs,c,d⟩:=b;simp only [c];exact⟨_,_,_,rfl,d⟩
 |normal=>obtain⟨h3,a,vs,c,d⟩:=h2;simp only [a,c];exact⟨_,_,_,rfl,d⟩
 |ret=>obtain⟨h3,a,vs,c,d⟩:=h2;simp only [a,c];exact⟨_,_,_,rfl,d⟩
def RetQ(Q:Value->Hp->Prop):Out->Option (Value×Bool)->Hp->Prop
 | .ret v,none,h=>Q v h
 |_,_,_=>False
theorem ret_of{E:Env}{f:FuncId}{args:List Value}{h:Hp}{Q:Value->Hp->Prop}(hq:eN E f args none h (RetQ Q)):Ret E f args h Q:=by
 obtain⟨o,rc,h',a,b⟩:=hq
 cases o with
 |pan v=>exact b.elim
 | ret v=>cases rc with
   |none=>exact⟨v,h',a,b⟩
   |some y=>exact b.elim
theorem ac{E:Env}{f:FuncId}{fn:Func}{body:Code}{n:Nat}{rs:List ResultVar}{args:List Value}{h:Hp}{Q:Value->Hp->Prop}
 (ho:E.orc f args=none) (hf:E.fn f=some fn) (hb:fn.body=some body) (hn:fn.ntmps=n) (hrs:fn.results.toList=rs) (hle:args.length<=n)
 (hr:Run E (lim E) ⟨f,n,none⟩ (lI E rs (RetQ Q)) [.code body] .normal (LL n (ce args) [] none) h):Ret E f args h Q:=ret_of (enter ho hf hb hn hrs hle hr)
theorem ret_orc{E:Env}{f:FuncId}{args:List Value}{h:Hp}{v:Value}{Q:Value->Hp->Prop}(ho:E.orc f args=some v)(hq:Q v h):Ret E f args h Q:=by
 refine⟨v,h,?_,hq⟩
 rw [call_eq]
 unfold gG
 rw [ho]
section
variable{E:Env}{rs:List ResultVar}{Q:Value->Hp->Prop}{n:Nat}{ρ:Nat->Value}{h:Hp}
theorem sC:lI E rs (RetQ Q) .ret (LL n ρ [] none) h↔ ∃vs,aR E (tab n ρ) h rs=some vs/\Q (ab vs) h:=by
 simp only [lI,LL,bH]
 constructor
 . intro⟨h',a,b⟩;cases a;exact b
 . intro b;exact⟨h,rfl,b⟩
theorem tV:lI E rs (RetQ Q) .normal (LL n ρ [] none) h↔ ∃vs,aR E (tab n ρ) h rs=some vs/\Q (ab vs) h:=sC
theorem dr{P:List Value->Prop}:(∃vs,aR E (tab n ρ) h []=some vs/\P vs)↔P []:=by
 simp only [aR]
 constructor
 . intro⟨_,a,b⟩;cases a;exact b
 . intro b;exact⟨_,rfl,b⟩
theorem jb{t:Tmp}{P:List Value->Prop}(ht:t<n):(∃vs,aR E (tab n ρ) h (.tmp t::rs)=some vs/\P vs)↔ ∃vs,aR E (tab n ρ) h rs=some vs/\P (ρ t::vs):=by
 simp only [aR,jL,if_pos ht]
 constructor
 . intro⟨vs,a,b⟩
   cases hr:aR E (tab n ρ) h rs with
   |none=>rw [hr]at a;cases a
   |some l=>rw [hr]at a;cases a;exact⟨l,rfl,b⟩
 . intro⟨vs,a,b⟩;rw [a];exact⟨_,rfl,b⟩
theorem cF{t:Tmp}{ty:TypeId}{v:Value}{P:List Value->Prop}(ht:t<n)(hv:dP E h ty (ρ t)=some v):(∃vs,aR E (tab n ρ) h (.cell t ty::rs)=some vs/\P vs)↔ ∃vs,aR E (tab n ρ) h rs=some vs/\P (v::vs):=by
 simp only [aR,jL,if_pos ht,hv]
 constructor
 . intro⟨vs,a,b⟩
   cases hr:aR E (tab n ρ) h rs with
   |none=>rw [hr]at a;cases a
   |some l=>rw [hr]at a;cases a;exact⟨l,rfl,b⟩
 . intro⟨vs,a,b⟩;rw [a];exact⟨_,rfl,b⟩
end
end Go.Ab

namespace Go.Ab

structure Gr(h h':Hp):Prop where
 ok0:h.t.Sized h.n
 ok:h'.t.Sized h'.n
 n:h.n<=h'.n
 get: ∀b,b<h.n->h'.get b=h.get b
 lo: ∀x,x<=h.n->x<=h.lo->x<=h'.lo
theorem Gr.refl{h:Hp}(ok:h.t.Sized h.n):Gr h h:=⟨ok,ok,ya _,fun _ _=>rfl,fun _ _ h=>h⟩
theorem Gr.trans{a b c:Hp}(x:Gr a b)(y:Gr b c):Gr a c:=
 ⟨x.ok0,y.ok,yu x.n y.n,fun i hi=>(y.get i (Nat.lt_of_lt_of_le hi x.n)).trans (x.get i hi),fun i h1 h2=>y.lo i (yu h1 x.n) (x.lo i h1 h2)⟩
theorem new_ok{h:Hp}(ok:h.t.Sized h.n)(x:Blk):(h.new x).t.Sized (h.new x).n:=Tr.sized_push x ok
theorem put_ok{h:Hp}(ok:h.t.Sized h.n)(b:Nat)(x:Blk):(h.put b x).t.Sized (h.put b x).n:=Tr.sized_set b x ok
theorem Gr.new{h:Hp}(ok:h.t.Sized h.n)(x:Blk):Gr h (h.new x):=
 ⟨ok,new_ok ok x,Nat.le_succ _,fun b hb=>by rw [h.get_new x ok,if_neg (by omega)],fun _ _ h=>h⟩
theorem Gr.put{a h:Hp}(g:Gr a h){b:Nat}(hb:a.n<=b)(x:Blk):Gr a (h.put b x):=by
 refine⟨g.ok0,put_ok g.ok b x,g.n,fun i hi=>?_,fun i h1 h2=>?_⟩
 . rw [Hp.get_put,if_neg (fun e=>by omega)];exact g.get i hi
 . have:=g.lo i h1 h2
   show i<=dz b h.lo
   unfold dz
   cases xY b h.lo<;>simp<;>omega
theorem gm{h:Hp}(ok:h.t.Sized h.n){b:Nat}{x:Blk}(e:h.get b=some x):b<h.n:=(ok b).1 (by show(h.get b).isSome=true;rw [e];rfl)
theorem Gr.at{h h':Hp}(g:Gr h h'){b:Nat}{x:Blk}(e:h.get b=some x):h'.get b=some x:=by rw [g.get b (gm g.ok0 e)];exact e
theorem bg{h:Hp}(ok:h.t.Sized h.n){b o n:Nat}{l:List Value}(e:h.load b o n=some l):b<h.n:=by
 unfold Hp.load at e
 split at e
 next hg=>exact gm ok hg
 next=>cases e
theorem Gr.load{h h':Hp}(g:Gr h h'){b o n:Nat}{l:List Value}(e:h.load b o n=some l):h'.load b o n=some l:=by
 have:=g.get b (bg g.ok0 e)
 unfold Hp.load at e⊢
 rw [this];exact e
theorem Gr.hlo{h h':Hp}(g:Gr {h with lo:=h.n} h'):xY h.n h'.lo=true:=xX (g.lo h.n (ya _) (ya _))

def Row(h:Hp)(b:Nat)(l:List Value)(md:Nat):Prop:= ∃t el,h.get b=some (.cells t l.length el md)/\t.Sized l.length/\ ∀i:Nat,t.get i=l[i]?
theorem Row.gr{h h':Hp}(g:Gr h h'){b:Nat}{l:List Value}{md:Nat}(r:Row h b l md):Row h' b l md:=by
 obtain⟨t,el,a,b,c⟩:=r;exact⟨t,el,g.at a,b,c⟩
theorem Row.lt{h:Hp}(ok:h.t.Sized h.n){b:Nat}{l:List Value}{md:Nat}(r:Row h b l md):b<h.n:=by
 obtain⟨t,el,a,_,_⟩:=r;exact gm ok a
theorem ul{α:Type}{t:Tr α}{l:List α}(ht: ∀i:Nat,t.get i=l[i]?): ∀(n o:Nat),o+n<=l.length->t.slice o n=some ((l.drop o).take n)
 |0,o,_=>by simp [Tr.slice]
 | n+1,o,h=>by
   simp only [Tr.slice]
   have:l[o]? =some l[o]:=List.getElem?_eq_getElem (by omega)
   rw [ht o,this,ul ht n (o+1) (by omega)]
   simp only []
   congr 1
   rw [show List.drop o l=l[o]::List.drop (o+1) l from yA (by omega)]
   rfl
theorem Row.load{h:Hp}{b:Nat}{l:List Value}{md:Nat}(r:Row h b l md){o n:Nat}(hn:o+n<=l.length):h.load b o n=some ((l.drop o).take n):=by
 obtain⟨t,el,a,_,c⟩:=r
 unfold Hp.load
 rw [a]
 simp only []
 rw [xX hn]
 exact ul c n o hn
theorem Row.load1{h:Hp}{b:Nat}{l:List Value}{md:Nat}(r:Row h b l md){o:Nat}{v:Value}(hv:l[o]? =some v):h.load b o 1=some [v]:=by
 have hlt:=(List.getElem?_eq_some_iff.1 hv).1
 rw [r.load (by omega)]
 congr 1
 rw [yA hlt]
 have:=(List.getElem?_eq_some_iff.1 hv).2
 simp [this]
theorem lU{h:Hp}(ok:h.t.Sized h.n)(l:List Value)(el md:Nat):Row (h.new (.cells (Tr.ofList l) l.length el md)) h.n l md:=
 ⟨Tr.ofList l,el,by rw [h.get_new _ ok,if_pos rfl],Tr.sized_ofList l,fun i=>Tr.get_ofList l i⟩
def lay(l:List Value)(o:Nat)(vs:List Value):List Value:=l.take o++vs++l.drop (o+vs.length)
theorem lq{l:List Value}{o:Nat}{vs:List Value}(h:o+vs.length<=l.length):(lay l o vs).length=l.length:=by simp [lay];omega
theorem iH{l:List Value}{o:Nat}{vs:List Value}(h:o+vs.length<=l.length)(i:Nat):(lay l o vs)[i]? =if o<=i/\i<o+vs.length then vs[i-o]? else l[i]? :=by
 unfold lay
 by_cases h1:i<o
 . rw [yj,yd (by simp;omega),List.getElem?_take,if_pos h1,if_neg (by omega)]
 . by_cases h2:i<o+vs.length
   . rw [yj,yb (by simp;omega),yd (by simp;omega),if_pos (by omega)]
     congr 1
     simp;omega
   . rw [yj,yb (by simp;omega),yb (by simp;omega),if_neg (by omega),List.getElem?_drop]
     congr 1
     simp;omega
theorem Row.store{h:Hp}(ok:h.t.Sized h.n){b:Nat}{l:List Value}{md:Nat}(r:Row h b l md)(hmd:md≠0){o:Nat}{vs:List Value}(ho:o+vs.length<=l.length)(hv:vs.all iK=true):
 ∃x,h.store b o vs=some (h.put b x)/\Row (h.put b x) b (lay l o vs) md:=by
 obtain⟨t,el,a,d,c⟩:=r
 refine⟨.cells (t.setAll o vs) l.length el md,?_,?_⟩
 . unfold Hp.store
   rw [a]
   simp only []
   have hb:yf md 0=false:=by
    cases hx:yf md 0 with
    |false=>rfl
    |true=>exact absurd (yq hx) hmd
   rw [xX ho,hb,hv]
   rfl
 . refine⟨t.setAll o vs,el,?_,?_,fun i=>?_⟩
   . rw [Hp.get_put,if_pos ⟨rfl,by rw [a];rfl⟩,lq ho]
   . rw [lq ho];exact Tr.sized_setAll o vs d
   . rw [Tr.get_setAll t o vs l.length d ho,iH ho,c]
end Go.Ab

namespace Go.Ab

theorem pop_ext {E:Env} {op:Op} {ρ ρ':Operand->Value} (e: ∀x∈op.operands.toList,ρ x=ρ' x):pop E ρ op=pop E ρ' op:=by
 cases op
 case build t ps=>
  simp only [pop]
  congr 1
  apply yg
  intro p hp
  rw [e p.2 (by simp only [Op.operands];simp;exact⟨p.1,by simpa using hp⟩)]
 case makeFunc fn a b=>
  cases fn<;>(try rfl)
  simp only [pop]
  have h1:a.map ρ=a.map ρ':=by
   apply yE
   intro x hx
   exact e x (by simp only [Op.operands];simp;exact .inl hx)
  have h2:b.map ρ=b.map ρ':=by
   apply yE
   intro x hx
   exact e x (by simp only [Op.operands];simp;exact .inr hx)
  rw [h1,h2]
 case slice t x l h m=>
  simp only [pop]
  have hx:=e x (by simp [Op.operands])
  have hl:l.map ρ=l.map ρ':=by cases l with|none=>rfl|some y=>simp [e y (by simp [Op.operands])]
  have hh:h.map ρ=h.map ρ':=by cases h with|none=>rfl|some y=>simp [e y (by simp [Op.operands])]
  have hm:m.map ρ=m.map ρ':=by cases m with|none=>rfl|some y=>simp [e y (by simp [Op.operands])]
  rw [hx,hl,hh,hm]
 case call c=>
  have ha:c.args.toList.map ρ=c.args.toList.map ρ':=by
   apply yg
   intro x hx
   refine e x ?_
   simp only [Op.operands,Call.operands]
   cases c.callee<;>simp_all
  cases hc:c.callee with
  |value f=>simp only [pop,hc]
  |invoke r n=>simp only [pop,hc]
  | builtin b=>
    cases b<;>simp only [pop,hc]<;>(try rfl)
    . cases hl:c.args.toList with
      |nil=>cases c.argTypes.toList<;>rfl
      | cons x xs=>
        have hx:ρ x=ρ' x:=e x (by
         have:x∈c.args.toList:=by rw [hl];exact yh
         simp only [Op.operands,Call.operands,hc];simpa using this)
        cases c.argTypes.toList with
        |nil=>rfl
        |cons t ts=>simp only [hx]
    . rw [ha]
    . rw [ha]
 all_goals (try rfl)
 all_goals first
  |(unfold Op.operands at e;simp at e;simp only [pop];simp [e];done)
  |(simp only [pop];done)
  |(cases ‹Fn› <;>simp only [pop];done)

theorem py{E:Env}{op:Op}{h:Hp}{ρ ρ':Operand->Value}(e: ∀x∈op.operands.toList,ρ x=ρ' x):aop E ρ h op=aop E ρ' h op:=by
 have hp:=pop_ext (E:=E) e
 cases op
 case buildSlice t n ps=>
  simp only [aop]
  congr 2
  apply yg
  intro p hp
  rw [e p.2 (by simp only [Op.operands];simp;exact⟨p.1,by simpa using hp⟩)]
 case makeMap t r=>cases r<;>simp only [aop,hp]
 case call c=>
  have ha:c.args.toList.map ρ=c.args.toList.map ρ':=by
   apply yg
   intro x hx
   refine e x ?_
   simp only [Op.operands,Call.operands]
   cases c.callee<;>simp_all
  have hx: ∀x∈c.args.toList,ρ x=ρ' x:=by
   intro x hx
   refine e x ?_
   simp only [Op.operands,Call.operands]
   cases c.callee<;>simp_all
  cases hc:c.callee with
  | value f=>
    have hf:ρ f=ρ' f:=e f (by simp [Op.operands,Call.operands,hc])
    simp only [aop,hc,ha,hf]
  |invoke r n=>simp only [aop,hc]
  | builtin b=>
    cases b<;>simp only [aop,hc,hp]<;>(try rfl)
    all_goals (cases hl:c.args.toList with
     |nil=>first|rfl|(cases c.argTypes.toList<;>rfl)
     | cons s xs=>
       simp only [hl]at hx
       have h1:=hx s yh
       cases xs with
       |nil=>first|rfl|(cases c.argTypes.toList<;>rfl)|simp only [h1]
       | cons y ys=>
         have h2:=hx y (yv _ yh)
         first|rfl|(simp only [h1,h2];done)|(simp only [h1];done)|(cases c.argTypes.toList with
          |nil=>rfl
          |cons t ts=>simp only [h1,h2]))
 case defer c=>
  have ha:c.args.toList.map ρ=c.args.toList.map ρ':=by
   apply yg
   intro x hx
   refine e x ?_
   simp only [Op.operands,Call.operands]
   cases c.callee<;>simp_all
  cases hc:c.callee with
  | value f=>
    have hf:ρ f=ρ' f:=e f (by simp [Op.operands,Call.operands,hc])
    simp only [aop,hc,ha,hf]
  |invoke r n=>simp only [aop,hc]
  |builtin b=>simp only [aop,hc]
 all_goals first
  |(simp only [aop];done)
  |(simp only [aop,hp];done)
  |(unfold Op.operands at e;simp at e;simp only [aop,e];done)
theorem touch_ext{op:Op}{ρ ρ':Operand->Value}(e: ∀x∈op.operands.toList,ρ x=ρ' x):touch ρ op=touch ρ' op:=by
 cases op
 case call c=>
  simp only [touch]
  cases hl:c.args.toList with
  |nil=>rfl
  | cons x xs=>
    simp only []
    rw [e x (by simp only [Op.operands,Call.operands];cases c.callee<;>simp_all)]
 all_goals first
  |rfl
  |(unfold Op.operands at e;simp at e;simp only [touch,e];done)
  |(simp only [touch];done)
theorem pH(l:Loc)(op:Op): ∀x∈op.operands.toList,l.evD (tmpsOf op.operands.toList) x=l.ev x:=by
 intro x hx
 cases x with
 | tmp t=>
   simp only [Loc.evD]
   rw [(j7 t _).2 ((nQ t _).2 hx)]
   rfl
 |_=>rfl

def iL(E:Env)(K:Value->Hp->Prop):Option (cR×Hp)->Prop
 |some (.val v,h')=>K v h'
 |some (.skip,h')=>K (.tuple #[]) h'
 | some (.call f args,h')=>eN E f args none h' fun x _ h''=>match x with
   | .ret v=>K v h''
   | .pan _=>False
 | some (.yield b args,h')=>jt E b args h' fun x h''=>match x with
   | .ret v=>K v h''
   | .pan _=>False
 |_=>False
theorem opVal_n{E:Env}{x:Option (cR×Hp)}{K:Value->Hp->Prop}:(∃v h',ct E (lim E) x=some (.ret v,h')/\K v h')↔iL E K x:=by
 cases x with
 |none=>exact⟨fun⟨_,_,a,_⟩=>(by cases a),fun h=>h.elim⟩
 | some q=>
   obtain⟨nx,h1⟩:=q
   cases nx with
   |val v=>exact⟨fun⟨_,_,a,b⟩=>(by cases a;exact b),fun h=>⟨_,_,rfl,h⟩⟩
   |skip=>exact⟨fun⟨_,_,a,b⟩=>(by cases a;exact b),fun h=>⟨_,_,rfl,h⟩⟩
   |panic v=>exact⟨fun⟨_,_,a,_⟩=>(by cases a),fun h=>h.elim⟩
   |recov=>exact⟨fun⟨_,_,a,_⟩=>(by cases a),fun h=>h.elim⟩
   |defer d=>exact⟨fun⟨_,_,a,_⟩=>(by cases a),fun h=>h.elim⟩
   | call f args=>
     simp only [iL,ct,eN]
     constructor
     . intro⟨v,h',a,b⟩
       cases hc:(lim E).call f args none h1 with
       |none=>rw [hc]at a;cases a
       |some q=>obtain⟨x,rc,h2⟩:=q;rw [hc]at a;cases a;exact⟨_,_,_,rfl,b⟩
     . intro⟨x,rc,h2,a,b⟩
       rw [a]
       cases x with
       |ret v=>exact⟨_,_,rfl,b⟩
       |pan v=>exact b.elim
   | yield b args=>
     simp only [iL,ct,jt]
     constructor
     . intro⟨v,h',a,c⟩;exact⟨_,_,a,c⟩
     . intro⟨x,h2,a,c⟩
       cases x with
       |ret v=>exact⟨_,_,a,c⟩
       |pan v=>exact c.elim
theorem stepD_iff{E:Env}{l:Loc}{quiet:Bool}{o:Oper}{h:Hp}{K:Value->Hp->Prop}:(∃v h',cd E (lim E) (l.evD (tmpsOf o.op.operands.toList)) quiet o h=some (v,h')/\K v h')↔
 (if quiet=true then iL E (fun v h'=>xY h.n h'.lo=true/\K v {h' with lo:=h.lo}) (aop E l.ev {h with lo:=h.n} o.op)else iL E K (aop E l.ev h o.op)):=by
 have e:=pH l o.op
 unfold cd
 cases quiet with
 | false=>
   rw [if_neg (by simp)]
   simp only [cond_false]
   rw [py e,<-opVal_n]
   constructor
   . intro⟨v,h',a,b⟩
     cases hx:ct E (lim E) (aop E l.ev h o.op)with
     |none=>rw [hx]at a;cases a
     |some q=>obtain⟨x,h2⟩:=q;rw [hx]at a;cases x<;>cases a;exact⟨_,_,rfl,b⟩
   . intro⟨v,h',a,b⟩;rw [a];exact⟨_,_,rfl,b⟩
 | true=>
   rw [if_pos rfl]
   simp only [cond_true]
   rw [py e,<-opVal_n]
   constructor
   . intro⟨v,h',a,b⟩
     cases hx:ct E (lim E) (aop E l.ev {h with lo:=h.n} o.op)with
     |none=>rw [hx]at a;cases a
     | some q=>
       obtain⟨x,h2⟩:=q
       rw [hx]at a
       cases x with
       |pan v=>cases a
       | ret v=>
         simp only []at a
         cases hb:xY h.n h2.lo with
         |false=>rw [hb]at a;cases a
         |true=>rw [hb]at a;cases a;exact⟨_,_,rfl,hb,b⟩
   . intro⟨v,h',a,hb,b⟩
     rw [a]
     simp only [hb,cond_true]
     exact⟨_,_,rfl,b⟩
theorem wW{op:Op}{ρ ρ':Operand->Value}{b:Bool}{h h':Hp}(e: ∀x∈op.operands.toList,ρ x=ρ' x):cb ρ b op h h'=cb ρ' b op h h':=by
 unfold cb iW;rw [touch_ext e]
theorem run_opsD{E:Env}{cx:Cx}{Q:dW}{k:List Fr}{l:Loc}{h:Hp}{a os:List Oper}{o:Oper}{q i:Nat}{ps:List (Nat×Nat)}{tr:List (Nat×Tch)}:Run E (lim E) cx Q (.opsD a q ps (o::os) i tr::k) .normal l h↔ ∃b,bQ a l.regs o=some b/\
 (if b =true then(if dS E q i o.op=true then
       iL E (fun v h'=>xY h.n h'.lo=true/\Run E (lim E) cx Q (.opsD a q ps os (i+1) (fQ i tr (cb l.ev true o.op h h))::k) .normal (l.put o.dst v) {h' with lo:=h.lo}) (aop E l.ev {h with lo:=h.n} o.op)
     else iL E (fun v h'=>Run E (lim E) cx Q (.opsD a q ps os (i+1) (fQ i tr (cb l.ev false o.op h h'))::k) .normal (l.put o.dst v) h') (aop E l.ev h o.op))
   else Run E (lim E) cx Q (.opsD a q ps os (i+1) tr::k) .normal (l.put o.dst (.tuple #[])) h):=by
 rw [tE]
 simp only [wW (pH l o.op),stepD_iff]
 cases dS E q i o.op with
 | true=>
   simp only [if_pos]
   exact xZ
 |false=>exact xZ
theorem tt{E:Env}{K:Value->Hp->Prop}{f:FuncId}{args:List Value}{h:Hp}{Q:Value->Hp->Prop}(hr:Ret E f args h Q)(hk: ∀v h',Q v h'->K v h'):iL E K (some (.call f args,h)):=by
 obtain⟨v,h',a,b⟩:=hr
 exact⟨.ret v,none,h',a,hk v h' b⟩
end Go.Ab

namespace Go.Ab
noncomputable section
abbrev Opt:=Option (Ex×Loc×Hp)

def getK{α:Type}(t:Tr α):Nat->Option α:=Tr.rec (motive:=fun _=>Nat->Option α) (fun _=>none)
 (fun x _ _ gl gr i=>Nat.rec (some x) (fun n _=>Bool.rec (gr (n/2)) (gl (n/2)) (yf (n%2) 0)) i) t
def setK{α:Type}(t:Tr α):Nat->α->Tr α:=Tr.rec (motive:=fun _=>Nat->α->Tr α) (fun _ _=>.nil)
 (fun y l r sl sr i x=>Nat.rec (.node x l r) (fun n _=>Bool.rec (.node y l (sr (n/2) x)) (.node y (sl (n/2) x) r) (yf (n%2) 0)) i) t
def eR(l:Loc)(d:Option Tmp)(v:Value):Loc:=Option.rec l (fun t=>Loc.mk (setK l.regs t v) l.dfs l.rc) d
def evK(l:Loc)(x:Operand):Value:=Operand.rec (motive:=fun _=>Loc->Value) (fun t l=>Option.rec (.tuple #[]) (fun v=>v) (getK l.regs t)) (fun v _=>Bool.rec poison v (bZ v))
 (fun g _=>Bool.rec poison (.pointer (some ⟨g,0,none⟩)) (yB g 16)) (fun f _=>.func (.func f) #[] #[]) x l
def exK(e:Ex):(Loc->Hp->Opt)->(Ex->Loc->Hp->Opt)->Loc->Hp->Opt:=Ex.rec (motive:=fun _=>(Loc->Hp->Opt)->(Ex->Loc->Hp->Opt)->Loc->Hp->Opt)
 (fun kn _ l h=>kn l h) (fun id _ ka l h=>ka (.exit id) l h) (fun _ ka l h=>ka .ret l h) (fun v _ ka l h=>ka (.pan v) l h) e
def dp(x:Opt)(kn:Loc->Hp->Opt)(ka:Ex->Loc->Hp->Opt):Opt:=Option.rec none (fun q=>Prod.rec (fun e q2=>Prod.rec (fun l h=>exK e kn ka l h) q2) q) x
def asInt:Value->Option (IntKind×Int)
 | .int k n=>some (k,n)
 |_=>none
abbrev BM:=IntKind->Int->IntKind->Int->Option Value->Option Value
def arK(f:IntKind->Int->Int->Option Value):BM:=fun k m k' n _=>Bool.rec none (f k m n) (li k k')
def binI(op:BinOp):BM:=BinOp.rec (motive:=fun _=>BM)
 (add:=arK fun k x y=>some (.int k (au k (x+y)))) (sub:=arK fun k x y=>some (.int k (au k (x-y)))) (mul:=arK fun k x y=>some (.int k (au k (x*y))))
 (quo:=fun _ _ _ _ s=>s) (rem:=fun _ _ _ _ s=>s) (and:=fun _ _ _ _ s=>s) (or:=fun _ _ _ _ s=>s) (xor:=fun _ _ _ _ s=>s) (andNot:=fun _ _ _ _ s=>s) (shl:=fun _ _ _ _ s=>s) (shr:=fun _ _ _ _ s=>s)
 (eql:=arK fun _ x y=>some (.bool (jm x y))) (neq:=arK fun _ x y=>some (.bool (!jm x y))) (lss:=arK fun _ x y=>some (.bool (jY x y))) (leq:=arK fun _ x y=>some (.bool (!jY y x)))
 (gtr:=arK fun _ x y=>some (.bool (jY y x))) (geq:=arK fun _ x y=>some (.bool (!jY x y))) op
def binK(E:Env)(op:BinOp)(t:TypeId)(x y:Operand)(a b:Value):Option Value:=
 Option.rec (bD E op t x y a b) (fun p=>Option.rec (bD E op t x y a b) (fun q=>binI op p.1 p.2 q.1 q.2 (bD E op t x y a b)) (asInt b)) (asInt a)
abbrev OpM:=Env->Rec->Cx->Option Tmp->Loc->Hp->(Loc->Hp->Opt)->(Ex->Loc->Hp->Opt)->Opt
def iJ(r:Option Value)(d:Option Tmp)(l:Loc)(h:Hp)(kn:Loc->Hp->Opt):Opt:=Option.rec none (fun v=>kn (eR l d v) h) r
def retHK(r:Option (Hp×Value))(d:Option Tmp)(l:Loc)(kn:Loc->Hp->Opt):Opt:=Option.rec none (fun p=>Prod.rec (fun h v=>kn (eR l d v) h) p) r
def o8(r:Option Hp)(d:Option Tmp)(l:Loc)(kn:Loc->Hp->Opt):Opt:=Option.rec none (fun h=>kn (eR l d (.tuple #[])) h) r
def cC(op:Op):OpM:=fun E R cx d l h kn ka=>dp (dk E R cx ⟨d,op,0,"",#[],none⟩ l h) kn ka
def outK(o:Out):Option Tmp->Loc->Hp->(Loc->Hp->Opt)->(Ex->Loc->Hp->Opt)->Opt:=Out.rec (motive:=fun _=>Option Tmp->Loc->Hp->(Loc->Hp->Opt)->(Ex->Loc->Hp->Opt)->Opt)
 (fun v d l h kn _=>kn (eR l d v) h) (fun v _ l h _ ka=>ka (.pan v) l h) o
def resK(r:Option (Out×Option (Value×Bool)×Hp))(d:Option Tmp)(l:Loc)(kn:Loc->Hp->Opt)(ka:Ex->Loc->Hp->Opt):Opt:=Option.rec none (fun q=>Prod.rec (fun o q2=>Prod.rec (fun _ h=>outK o d l h kn ka) q2) q) r
def asFn:Value->Option (FuncId×Array Value×Array Value)
 | .func (.func g) a b=>some (g,a,b)
 |_=>none
def callK(c:Call):OpM:=fun E R cx d l h kn ka=>Callee.rec (motive:=fun _=>Opt)
 (fun f=>Option.rec (cC (.call c) E R cx d l h kn ka) (fun p=>resK (R.call p.1 (p.2.1.toList++c.args.toList.map (evK l)++p.2.2.toList) none h) d l kn ka) (asFn (evK l f)))
 (fun _ _=>cC (.call c) E R cx d l h kn ka) (fun _=>cC (.call c) E R cx d l h kn ka) c.callee
def opK(op:Op):OpM:=Op.rec (motive:=fun _=>OpM)
 (move:=fun x _ _ _ d l h kn _=>kn (eR l d (evK l x)) h)
 (assign:=fun x _ _ _ d l h kn _=>kn (eR l d (evK l x)) h)
 (pick:=fun c a b=>cC (.pick c a b))
 (alloc:=fun e=>cC (.alloc e))
 (box:=fun e v=>cC (.box e v))
 (build:=fun t ps=>cC (.build t ps))
 (buildSlice:=fun t n ps=>cC (.buildSlice t n ps))
 (insert:=fun t m k v=>cC (.insert t m k v))
 (load:=fun t a E _ _ d l h kn _=>iJ (dP E h t (evK l a)) d l h kn)
 (store:=fun t a v E _ _ d l h kn _=>o8 (gc E h t (evK l a) (evK l v)) d l kn)
 (ready:=fun g=>cC (.ready g))
 (waits:=fun g=>cC (.waits g))
 (nilCheck:=fun x=>cC (.nilCheck x))
 (binOp:=fun op t x y u E _ _ d l h kn _=>iJ (binK E op t x y (evK l x) (evK l y)) d l h kn)
 (unOp:=fun op t x E _ _ d l h kn _=>iJ (unP op (evK l x)) d l h kn)
 (convert:=fun s t x=>cC (.convert s t x))
 (sliceToArrayPointer:=fun t x=>cC (.sliceToArrayPointer t x))
 (makeInterface:=fun t x=>cC (.makeInterface t x))
 (makeFunc:=fun f a b=>cC (.makeFunc f a b))
 (makeMap:=fun t r=>cC (.makeMap t r))
 (makeChan:=fun t s=>cC (.makeChan t s))
 (makeSlice:=fun t a c=>cC (.makeSlice t a c))
 (slice:=fun t x a b c=>cC (.slice t x a b c))
 (fieldAddr:=fun s x i E _ _ d l h kn _=>iJ (an E s (evK l x) i) d l h kn)
 (field:=fun t x i E _ _ d l h kn _=>iJ (aq E t (evK l x) i) d l h kn)
 (indexAddr:=fun t x i E _ _ d l h kn _=>iJ (dE E t (evK l x) (evK l i)) d l h kn)
 (index:=fun t x i E _ _ d l h kn _=>iJ (mg E t (evK l x) (evK l i)) d l h kn)
 (lookup:=fun t m k ok E _ _ d l h kn _=>iJ (dA E h t (evK l m) (evK l k) ok) d l h kn)
 (mapUpdate:=fun t m k v E _ _ d l h kn _=>o8 (iV E h t (evK l m) (evK l k) (evK l v)) d l kn)
 (mapEntry:=fun t m k E _ _ d l h kn _=>retHK (iq E h t (evK l m) (evK l k)) d l kn)
 (entryStore:=fun t m s v=>cC (.entryStore t m s v))
 (range:=fun t x=>cC (.range t x))
 (next:=fun i s=>cC (.next i s))
 (entry:=fun i=>cC (.entry i))
 (typeAssert:=fun x s t ok=>cC (.typeAssert x s t ok))
 (extract:=fun t i=>cC (.extract t i))
 (call:=fun c=>callK c)
 (go:=fun c=>cC (.go c))
 (defer:=fun c=>cC (.defer c))
 (panic:=fun x=>cC (.panic x))
 (send:=fun c x=>cC (.send c x))
 (recv:=fun t c ok=>cC (.recv t c ok))
 (select:=fun cs b=>cC (.select cs b)) op
def m8(ops:List Oper)(l:Loc)(o:Oper):Option Bool:=Option.rec (some true) (fun _=>bQ ops l.regs o) o.guard
def opsK(E:Env)(R:Rec)(cx:Cx)(ops:List Oper)(kn:Loc->Hp->Opt)(ka:Ex->Loc->Hp->Opt)(os:List Oper):Loc->Hp->Opt:=List.rec (motive:=fun _=>Loc->Hp->Opt) kn
 (fun o _ ih l h=>Option.rec none (fun b=>Bool.rec (ih (eR l o.dst (.tuple #[])) h) (opK o.op E R cx o.dst l h ih ka) b) (m8 ops l o)) os
def mW(op:Op):Bool:=Op.rec (motive:=fun _=>Bool)
 (move:=fun _=>true) (assign:=fun _=>true) (pick:=fun _ _ _=>false) (alloc:=fun _=>false) (box:=fun _ _=>false) (build:=fun _ _=>false) (buildSlice:=fun _ _ _=>false)
 (insert:=fun _ _ _ _=>false) (load:=fun _ _=>true) (store:=fun _ _ _=>true) (ready:=fun _=>false) (waits:=fun _=>false) (nilCheck:=fun _=>false) (binOp:=fun _ _ _ _ _=>true)
 (unOp:=fun _ _ _=>true) (convert:=fun _ _ _=>false) (sliceToArrayPointer:=fun _ _=>false) (makeInterface:=fun _ _=>false) (makeFunc:=fun _ _ _=>false) (makeMap:=fun _ _=>false)
 (makeChan:=fun _ _=>false) (makeSlice:=fun _ _ _=>false) (slice:=fun _ _ _ _ _=>false) (fieldAddr:=fun _ _ _=>true) (field:=fun _ _ _=>true) (indexAddr:=fun _ _ _=>true) (index:=fun _ _ _=>true)
 (lookup:=fun _ _ _ _=>true) (mapUpdate:=fun _ _ _ _=>true) (mapEntry:=fun _ _ _=>true) (entryStore:=fun _ _ _ _=>false) (range:=fun _ _=>false) (next:=fun _ _=>false) (entry:=fun _=>false)
 (typeAssert:=fun _ _ _ _=>false) (extract:=fun _ _=>false) (call:=fun _=>false) (go:=fun _=>false) (defer:=fun _=>false) (panic:=fun _=>false) (send:=fun _ _=>false) (recv:=fun _ _ _=>false)
 (select:=fun _ _=>false) op
def nJ(E:Env)(q i:Nat)(op:Op):Bool:=Bool.rec (Bool.rec false (xY 3 (cls E op)) (Nat.testBit q i)) false (yf q 0)
def outDK(o:Out):(Value->Hp->Opt)->Hp->Opt:=Out.rec (motive:=fun _=>(Value->Hp->Opt)->Hp->Opt) (fun v k h=>k v h) (fun _ _ _=>none) o
def resDK(r:Option (Out×Option (Value×Bool)×Hp))(k:Value->Hp->Opt):Opt:=Option.rec none (fun q=>Prod.rec (fun o q2=>Prod.rec (fun _ h=>outDK o k h) q2) q) r
def jr(E:Env)(R:Rec)(qb:Bool)(o:Oper)(l:Loc)(h:Hp)(k:Value->Hp->Opt):Opt:=Option.rec none (fun p=>k p.1 p.2) (cd E R l.ev qb o h)
def rB(h:Hp)(k:Value->Hp->Opt)(v:Value)(h':Hp):Opt:=Bool.rec none (k v {h' with lo:=h.lo}) (xY h.n h'.lo)
def callDK(E:Env)(R:Rec)(qb:Bool)(o:Oper)(c:Call)(l:Loc)(h:Hp)(k:Value->Hp->Opt):Opt:=Callee.rec (motive:=fun _=>Opt)
 (fun f=>Option.rec (jr E R qb o l h k) (fun p=>Bool.rec (resDK (R.call p.1 (p.2.1.toList++c.args.toList.map (evK l)++p.2.2.toList) none h) k)
   (resDK (R.call p.1 (p.2.1.toList++c.args.toList.map (evK l)++p.2.2.toList) none {h with lo:=h.n}) (rB h k)) qb) (asFn (evK l f)))
 (fun _ _=>jr E R qb o l h k) (fun _=>jr E R qb o l h k) c.callee
def asCall(op:Op):Option Call:=match op with
 | .call c=>some c
 |_=>none
def q7(E:Env)(R:Rec)(qb:Bool)(o:Oper)(l:Loc)(h:Hp)(k:Value->Hp->Opt):Opt:=Option.rec (jr E R qb o l h k) (fun c=>callDK E R qb o c l h k) (asCall o.op)
def qH(l:Loc)(op:Op):Option Tch:=match touch (l.evD (tmpsOf op.operands.toList)) op with
 |none=>none
 |some b=>some (.blk b)
abbrev DM:=Nat->Loc->Hp->List (Nat×Tch)->Opt
def qA (E:Env) (R:Rec) (cx:Cx) (q:Nat) (o:Oper) (ih:DM) (i:Nat) (l:Loc) (h:Hp) (tr:List (Nat×Tch)):Opt:=
 Bool.rec (q7 E R (nJ E q i o.op) o l h fun v h'=>ih (i+1) (eR l o.dst v) h' (fQ i tr (cb (l.evD (tmpsOf o.op.operands.toList)) (nJ E q i o.op) o.op h h')))
  (Bool.rec (opK o.op E R cx o.dst l h (fun l' h'=>ih (i+1) l' h' (fQ i tr (qH l o.op))) (fun _ _ _=>none))
    (jr E R true o l h fun v h'=>ih (i+1) (eR l o.dst v) h' (fQ i tr (qH l o.op))) (nJ E q i o.op)) (mW o.op)
def lG(E:Env)(R:Rec)(cx:Cx)(ops:List Oper)(q:Nat)(fin:DM)(os:List Oper):DM:=List.rec (motive:=fun _=>DM) fin
 (fun o _ ih i l h tr=>Option.rec none (fun b=>Bool.rec (ih (i+1) (eR l o.dst (.tuple #[])) h tr) (qA E R cx q o ih i l h tr) b) (m8 ops l o)) os
def drawKo(E:Env)(R:Rec)(cx:Cx)(ops:List Oper)(l:Loc)(h:Hp)(kn:Loc->Hp->Opt):Opt:=
 Option.rec none (fun p=>lG E R cx ops p.1 (fun _ l h tr=>Bool.rec none (kn l h) (dK tr p.2)) ops 0 l h []) (plan E ops)
def drawK(E:Env)(R:Rec)(cx:Cx)(ops:List Oper)(l:Loc)(h:Hp)(kn:Loc->Hp->Opt):Opt:=drawKo E R cx (dQ ops) l h kn

abbrev CodeM:=Cx->Code->Loc->Hp->(Loc->Hp->Opt)->(Ex->Loc->Hp->Opt)->Opt
def asBool:Value->Option Bool
 | .bool b=>some b
 |_=>none
def blkK(e:Ex):Nat->(Loc->Hp->Opt)->(Ex->Loc->Hp->Opt)->Loc->Hp->Opt:=Ex.rec (motive:=fun _=>Nat->(Loc->Hp->Opt)->(Ex->Loc->Hp->Opt)->Loc->Hp->Opt)
 (fun _ kn _ l h=>kn l h) (fun i id kn ka l h=>Bool.rec (ka (.exit i) l h) (kn l h) (yf i id)) (fun _ _ ka l h=>ka .ret l h) (fun v _ _ ka l h=>ka (.pan v) l h) e
def kH(E:Env)(R:Rec)(M:CodeM)(cx:Cx)(c:Code):Loc->Hp->(Loc->Hp->Opt)->(Ex->Loc->Hp->Opt)->Opt:=Code.rec (motive:=fun _=>Loc->Hp->(Loc->Hp->Opt)->(Ex->Loc->Hp->Opt)->Opt)
 (skip:=fun l h kn _=>kn l h)
 (region:=fun _ ops draw l h kn ka=>Bool.rec (opsK E R cx ops.toList kn ka ops.toList l h) (drawK E R cx ops.toList l h kn) draw)
 (seq:=fun _ _ iha ihb l h kn ka=>iha l h (fun l h=>ihb l h kn ka) ka)
 (cond:=fun c _ _ iha ihb l h kn ka=>Option.rec none (fun t=>Bool.rec (ihb l h kn ka) (iha l h kn ka) t) (asBool (evK l c)))
 (block:=fun id _ ih l h kn ka=>ih l h kn (fun e l h=>blkK e id kn ka l h))
 (loop:=fun b ih l h kn ka=>ih l h (fun l h=>M cx (.loop b) l h kn ka) ka)
 (rangeFunc:=fun f ps asg body _ _ l h kn ka=>dp (gk R cx (evK l f) ps asg body l h) kn ka)
 (exit:=fun id l h _ ka=>ka (.exit id) l h)
 (scope:=fun _ ih l h kn ka=>ih l h kn ka)
 (label:=fun _ l h kn _=>kn l h)
 (goto:=fun _ _ _ _ _=>none)
 (ret:=fun l h _ ka=>ka .ret l h)
 (refuse:=fun _ _ _ _ _=>none) c
abbrev lg:=Option (Out×Option (Value×Bool)×Hp)
def qj(E:Env)(R:Rec)(fn:Func)(l:Loc)(h':Hp):lg:=match bH R l.dfs none h' with
 | some (none,h'')=>match aR E l.regs h'' fn.results.toList with
   |none=>none
   |some vs=>some (.ret (ab vs),l.rc,h'')
 |_=>none
def doneK(E:Env)(R:Rec)(fn:Func)(l:Loc)(h:Hp):lg:=List.rec (motive:=fun _=>lg)
 (Option.rec none (fun vs=>some (.ret (ab vs),l.rc,h)) (aR E l.regs h fn.results.toList)) (fun _ _ _=>qj E R fn l h) l.dfs
def slowPan(E:Env)(R:Rec)(fn:Func)(v:Value)(l:Loc)(h':Hp):lg:=match bH R l.dfs (some v) h' with
 |none=>none
 |some (some v,h'')=>some (.pan v,l.rc,h'')
 | some (none,h'')=>match aR E l.regs h'' fn.results.toList with
   |none=>none
   |some vs=>some (.ret (ab vs),l.rc,h'')
def exLeave(e:Ex):Env->Rec->Func->Loc->Hp->lg:=Ex.rec (motive:=fun _=>Env->Rec->Func->Loc->Hp->lg) doneK (fun _ _ _ _ _ _=>none) doneK (fun v E R fn l h=>slowPan E R fn v l h) e
def leaveK(E:Env)(R:Rec)(fn:Func)(r:Opt):lg:=Option.rec none (fun q=>Prod.rec (fun e q2=>Prod.rec (fun l h=>exLeave e E R fn l h) q2) q) r
def qN(E:Env)(R:Rec)(f:FuncId)(args:List Value)(rc:Option (Value×Bool))(h:Hp)(fn:Func)(body:Code):lg:=
 Bool.rec none (leaveK E R fn (R.code ⟨f,fn.ntmps,none⟩ body ⟨(Tr.blank (.tuple #[]) fn.ntmps fn.ntmps).setAll 0 args,[],rc⟩ h)) (xY args.length fn.ntmps)
def callBK(E:Env)(R:Rec)(f:FuncId)(args:List Value)(rc:Option (Value×Bool))(h:Hp):lg:=
 Option.rec none (fun fn=>Option.rec none (fun body=>qN E R f args rc h fn body) fn.body) (E.fn f)
def qR(E:Env)(R:Rec)(f:FuncId)(args:List Value)(rc:Option (Value×Bool))(h:Hp):lg:=
 Option.rec (callBK E R f args rc h) (fun v=>Option.rec (some (.ret v,none,h)) (fun _=>none) rc) (E.orc f args)
structure RK where
 call:FuncId->List Value->Option (Value×Bool)->Hp->lg
 code:CodeM
def RK.rec'(K:RK):Rec:=⟨K.call,fun cx c l h=>K.code cx c l h (fun l h=>some (.normal,l,h)) (fun e l h=>some (e,l,h))⟩
def botK:RK:=⟨fun _ _ _ _=>none,fun _ _ _ _ _ _=>none⟩
def nextRK(E:Env)(K:RK):RK:=⟨fun f args rc h=>qR E K.rec' f args rc h,fun cx c l h kn ka=>kH E K.rec' K.code cx c l h kn ka⟩
def runK(E:Env)(n:Nat):RK:=Nat.rec botK (fun _ K=>nextRK E K) n
def envK(fns:Tr Func)(tys:Tr TypeInfo)(eqs:List Nat):Env:={fn:=fun f=>getK fns f,ty:=fun t=>getK tys t,eqok:=fun t=>memb t eqs}
end
end Go.Ab

namespace Go.Ab
noncomputable section
theorem getK_eq{α:Type}(t:Tr α)(i:Nat):getK t i=t.get i:=rfl
theorem setK_eq{α:Type}(t:Tr α)(i:Nat)(x:α):setK t i x=t.set i x:=rfl

theorem kh(l:Loc)(d:Option Tmp)(v:Value):eR l d v=l.put d v:=by
 cases d with
 |none=>rfl
 |some t=>show Loc.mk (setK l.regs t v) l.dfs l.rc=_;rw [setK_eq];rfl
theorem eI(l:Loc):evK l=l.ev:=by
 funext x
 cases x with
 | tmp t=>
   show Option.rec (motive:=fun _=>Value) _ _ (getK l.regs t)=_
   rw [getK_eq]
   simp only [Loc.ev]
   cases l.regs.get t<;>rfl
 |const v=>simp only [Loc.ev];show Bool.rec (motive:=fun _=>Value) poison v (bZ v)=_;cases bZ v<;>rfl
 |global g=>simp only [Loc.ev];show Bool.rec (motive:=fun _=>Value) poison _ (yB g 16)=_;cases yB g 16<;>rfl
 |func f=>rfl

theorem bind2_id(x:Opt):dp x (fun l h=>some (.normal,l,h)) (fun e l h=>some (e,l,h))=x:=by
 cases x with
 |none=>rfl
 |some q=>obtain⟨e,l,h⟩:=q;cases e<;>rfl
theorem nw(x:Opt)(k1:Loc->Hp->Opt)(a1:Ex->Loc->Hp->Opt)(kn:Loc->Hp->Opt)(ka:Ex->Loc->Hp->Opt)(ha: ∀e l h,e≠ .normal->a1 e l h=ka e l h):
 dp x (fun l h=>dp (k1 l h) kn ka) a1=dp (match x with
  |some (.normal,l,h)=>k1 l h
  |r=>r) kn ka:=by
 cases x with
 |none=>rfl
 | some q=>
   obtain⟨e,l,h⟩:=q
   cases e with
   |normal=>rfl
   |exit i=>exact ha _ _ _ (by simp)
   |ret=>exact ha _ _ _ (by simp)
   |pan v=>exact ha _ _ _ (by simp)

theorem binK_eq(E:Env)(op:BinOp)(t:TypeId)(x y:Operand)(a b:Value):binK E op t x y a b=bD E op t x y a b:=by
 cases a<;>(try rfl)
 cases b<;>(try rfl)
 rename_i k m k' n
 cases op<;>(try rfl)
 all_goals (show Bool.rec (motive:=fun _=>Option Value) none _ (li k k')=(bif li k k' then _ else none);cases li k k'<;>rfl)

theorem retK_eq(r:Option Value)(o:Oper)(l:Loc)(h:Hp)(E:Env)(R:Rec)(kn:Loc->Hp->Opt)(ka:Ex->Loc->Hp->Opt):iJ r o.dst l h kn=dp (kJ o l (ct E R (bO h r))) kn ka:=by
 cases r with
 |none=>rfl
 |some v=>show kn (eR l o.dst v) h=kn (l.put o.dst v) h;rw [kh]
theorem retHK_eq(r:Option (Hp×Value))(o:Oper)(l:Loc)(E:Env)(R:Rec)(kn:Loc->Hp->Opt)(ka:Ex->Loc->Hp->Opt):retHK r o.dst l kn=dp (kJ o l (ct E R (cv r))) kn ka:=by
 cases r with
 |none=>rfl
 |some p=>obtain⟨h,v⟩:=p;show kn (eR l o.dst v) h=kn (l.put o.dst v) h;rw [kh]
theorem retUK_eq(r:Option Hp)(o:Oper)(l:Loc)(E:Env)(R:Rec)(kn:Loc->Hp->Opt)(ka:Ex->Loc->Hp->Opt):o8 r o.dst l kn=dp (kJ o l (ct E R (eH r))) kn ka:=by
 cases r with
 |none=>rfl
 |some h=>show kn (eR l o.dst (.tuple #[])) h=kn (l.put o.dst (.tuple #[])) h;rw [kh]
theorem resK_eq(R:Rec)(g:FuncId)(args:List Value)(o:Oper)(l:Loc)(h:Hp)(E:Env)(kn:Loc->Hp->Opt)(ka:Ex->Loc->Hp->Opt):
 resK (R.call g args none h) o.dst l kn ka=dp (kJ o l (ct E R (some (.call g args,h)))) kn ka:=by
 simp only [ct]
 cases R.call g args none h with
 |none=>rfl
 | some q=>
   obtain⟨x,rc,h2⟩:=q
   cases x with
   |ret v=>show kn (eR l o.dst v) h2=kn (l.put o.dst v) h2;rw [kh]
   |pan v=>rfl
theorem jT{E:Env}{R:Rec}{cx:Cx}{o:Oper}{l:Loc}{h:Hp}{x:Option (cR×Hp)}(hx:aop E l.ev h o.op=x)(hn: ∀h',x≠some (.recov,h'))(hd: ∀d h',x≠some (.defer d,h')):dk E R cx o l h=kJ o l (ct E R x):=by
 unfold dk
 rw [hx]
 split
 . exact absurd rfl (hn _)
 . exact absurd rfl (hd _ _)
 . rfl
theorem qo{h:Hp}{r:Option Value}:(∀h',bO h r≠some (.recov,h'))/\ ∀d h',bO h r≠some (.defer d,h'):=by cases r<;>exact⟨by intros;simp [bO],by intros;simp [bO]⟩
theorem qm{r:Option (Hp×Value)}:(∀h',cv r≠some (.recov,h'))/\ ∀d h',cv r≠some (.defer d,h'):=by cases r<;>exact⟨by intros;simp [cv],by intros;simp [cv]⟩
theorem qc{r:Option Hp}:(∀h',eH r≠some (.recov,h'))/\ ∀d h',eH r≠some (.defer d,h'):=by cases r<;>exact⟨by intros;simp [eH],by intros;simp [eH]⟩
theorem opK_eq(E:Env)(R:Rec)(cx:Cx)(o:Oper)(l:Loc)(h:Hp)(kn:Loc->Hp->Opt)(ka:Ex->Loc->Hp->Opt):opK o.op E R cx o.dst l h kn ka=dp (dk E R cx o l h) kn ka:=by
 have hr: ∀r,aop E l.ev h o.op=bO h r->iJ r o.dst l h kn=dp (dk E R cx o l h) kn ka:=fun r hx=>by rw [jT hx qo.1 qo.2];exact retK_eq r o l h E R kn ka
 have hv: ∀r,aop E l.ev h o.op=cv r->retHK r o.dst l kn=dp (dk E R cx o l h) kn ka:=fun r hx=>by rw [jT hx qm.1 qm.2];exact retHK_eq r o l E R kn ka
 have hu: ∀r,aop E l.ev h o.op=eH r->o8 r o.dst l kn=dp (dk E R cx o l h) kn ka:=fun r hx=>by rw [jT hx qc.1 qc.2];exact retUK_eq r o l E R kn ka
 obtain⟨dst,op,ty,pos,after,guard⟩:=o
 simp only []at hr hv hu⊢
 cases op
 case move x=>
  have:=hr (some (l.ev x)) rfl
  rw [<-this]
  show kn (eR l dst (evK l x)) h=kn (eR l dst (l.ev x)) h
  rw [eI]
 case assign x=>
  have:=hr (some (l.ev x)) rfl
  rw [<-this]
  show kn (eR l dst (evK l x)) h=kn (eR l dst (l.ev x)) h
  rw [eI]
 case load t a=>rw [<-hr _ rfl];show iJ (dP E h t (evK l a)) dst l h kn=_;rw [eI]
 case store t a v=>rw [<-hu _ rfl];show o8 (gc E h t (evK l a) (evK l v)) dst l kn=_;rw [eI]
 case binOp b t x y u=>rw [<-hr (bD E b t x y (l.ev x) (l.ev y)) rfl];show iJ (binK E b t x y (evK l x) (evK l y)) dst l h kn=_;rw [eI,binK_eq]
 case unOp b t x=>rw [<-hr (unP b (l.ev x)) rfl];show iJ (unP b (evK l x)) dst l h kn=_;rw [eI]
 case fieldAddr t x i=>rw [<-hr (an E t (l.ev x) i) rfl];show iJ (an E t (evK l x) i) dst l h kn=_;rw [eI]
 case field t x i=>rw [<-hr (aq E t (l.ev x) i) rfl];show iJ (aq E t (evK l x) i) dst l h kn=_;rw [eI]
 case indexAddr t x i=>rw [<-hr (dE E t (l.ev x) (l.ev i)) rfl];show iJ (dE E t (evK l x) (evK l i)) dst l h kn=_;rw [eI]
 case index t x i=>rw [<-hr (mg E t (l.ev x) (l.ev i)) rfl];show iJ (mg E t (evK l x) (evK l i)) dst l h kn=_;rw [eI]
 case lookup t m k b=>rw [<-hr _ rfl];show iJ (dA E h t (evK l m) (evK l k) b) dst l h kn=_;rw [eI]
 case mapUpdate t m k v=>rw [<-hu _ rfl];show o8 (iV E h t (evK l m) (evK l k) (evK l v)) dst l kn=_;rw [eI]
 case mapEntry t m k=>rw [<-hv _ rfl];show retHK (iq E h t (evK l m) (evK l k)) dst l kn=_;rw [eI]
 case call c=>
  show callK c E R cx dst l h kn ka=_
  unfold callK
  cases hc:c.callee with
  |invoke r n=>rfl
  |builtin b=>rfl
  | value f=>
    show Option.rec (motive:=fun _=>Opt) (cC (.call c) E R cx dst l h kn ka) _ (asFn (evK l f))=_
    rw [eI]
    cases hf:asFn (l.ev f)with
    |none=>rfl
    | some p=>
      obtain⟨g,a,b⟩:=p
      have hv:l.ev f=.func (.func g) a b:=by
       unfold asFn at hf
       split at hf
       . rename_i he;cases hf;exact he
       . cases hf
      have hx:aop E l.ev h (.call c)=some (.call g (a.toList++c.args.toList.map l.ev++b.toList),h):=by simp only [aop,hc,hv,target]
      rw [jT (o:=⟨dst,.call c,ty,pos,after,guard⟩) hx (by intro h' e;cases e) (by intro d h' e;cases e)]
      exact resK_eq R g _ ⟨dst,.call c,ty,pos,after,guard⟩ l h E kn ka
 all_goals rfl

theorem sZ(ops:List Oper)(l:Loc)(o:Oper):m8 ops l o=bQ ops l.regs o:=by
 unfold m8
 cases hg:o.guard with
 |none=>unfold bQ;rw [hg]
 |some q=>rfl
theorem opsK_eq(E:Env)(R:Rec)(cx:Cx)(ops:List Oper)(kn:Loc->Hp->Opt)(ka:Ex->Loc->Hp->Opt): ∀(os:List Oper) (l:Loc) (h:Hp),opsK E R cx ops kn ka os l h=dp (ig E R cx ops os l h) kn ka
 | [],l,h=>rfl
 | o ::os,l,h=>by
   have ih:=opsK_eq E R cx ops kn ka os
   show Option.rec (motive:=fun _=>Opt) none (fun b=>Bool.rec (opsK E R cx ops kn ka os (eR l o.dst (.tuple #[])) h) (opK o.op E R cx o.dst l h (opsK E R cx ops kn ka os) ka) b) (m8 ops l o)=_
   rw [sZ]
   simp only [ig]
   cases bQ ops l.regs o with
   |none=>rfl
   | some b=>
     cases b with
     |false=>show opsK E R cx ops kn ka os (eR l o.dst (.tuple #[])) h=_;rw [ih,kh]
     | true=>
       show opK o.op E R cx o.dst l h (opsK E R cx ops kn ka os) ka=_
       rw [opK_eq,show opsK E R cx ops kn ka os=fun l h=>dp (ig E R cx ops os l h) kn ka from funext fun l=>funext fun h=>ih l h]
       rw [nw _ _ _ _ _ (fun _ _ _ _=>rfl)]
       simp only []
       cases dk E R cx o l h with
       |none=>rfl
       |some q=>obtain⟨e,l',h'⟩:=q;cases e<;>rfl

end
end Go.Ab

namespace Go.Ab
noncomputable section

theorem tB(E:Env)(R:Rec)(l:Loc)(qb:Bool)(o:Oper)(h:Hp):cd E R (l.evD (tmpsOf o.op.operands.toList)) qb o h=cd E R l.ev qb o h:=by
 unfold cd
 rw [py (pH l o.op),py (pH l o.op)]
theorem fast_step{E:Env}{R:Rec}{cx:Cx}{o:Oper}{l:Loc}{h:Hp}(hf:mW o.op=true){K:Value->Hp->Opt}:
 dp (dk E R cx o l h) (fun l' h'=>none) (fun _ _ _=>none)=none/\
 ∀ kn:Loc->Hp->Opt,dp (dk E R cx o l h) kn (fun _ _ _=>none)=(match cd E R l.ev false o h with
   |none=>none
   |some (v,h')=>kn (l.put o.dst v) h'):=by
 have key: ∀x,aop E l.ev h o.op=x->((∃h0 r,x=bO h0 r)\/(∃r,x=cv r)\/ ∃r,x=eH r)-> ∀kn:Loc->Hp->Opt,dp (dk E R cx o l h) kn (fun _ _ _=>none)=(match cd E R l.ev false o h with
  |none=>none
  |some (v,h')=>kn (l.put o.dst v) h'):=by
  intro x hx hs kn
  have hn:(∀h',x≠some (.recov,h'))/\ ∀d h',x≠some (.defer d,h'):=by
   rcases hs with⟨h0,r,rfl⟩|⟨r,rfl⟩|⟨r,rfl⟩
   . exact qo
   . exact qm
   . exact qc
  rw [jT hx hn.1 hn.2]
  simp only [cd,cond_false,hx]
  rcases hs with⟨h0,r,rfl⟩|⟨r,rfl⟩|⟨r,rfl⟩<;>cases r<;>rfl
 have kind:(∃h0 r,aop E l.ev h o.op=bO h0 r)\/(∃r,aop E l.ev h o.op=cv r)\/ ∃r,aop E l.ev h o.op=eH r:=by
  obtain⟨dst,op,ty,pos,after,guard⟩:=o
  simp only []at hf⊢
  cases op<;>(try (cases hf;done))
  all_goals first
   |exact .inl ⟨h,some (l.ev _),rfl⟩
   |exact .inl ⟨h,_,rfl⟩
   |exact .inr (.inl ⟨_,rfl⟩)
   |exact .inr (.inr ⟨_,rfl⟩)
 refine⟨?_,key _ rfl kind⟩
 rw [key _ rfl kind]
 cases cd E R l.ev false o h<;>rfl
theorem qi(E:Env)(q i:Nat)(op:Op):nJ E q i op=dS E q i op:=by
 unfold nJ dS
 cases hq:yf q 0 with
 | true=>
   have:q=0:=yq hq
   subst this
   simp
 |false=>cases Nat.testBit q i<;>rfl
theorem elseDK_eq (E:Env) (R:Rec) (qb:Bool) (o:Oper) (l:Loc) (h:Hp) (k:Value->Hp->Opt):q7 E R qb o l h k=jr E R qb o l h k:=by
 unfold q7
 cases hc:asCall o.op with
 |none=>rfl
 | some c=>
   show callDK E R qb o c l h k=_
   have ho:o.op=.call c:=by
    unfold asCall at hc
    split at hc
    . rename_i he;cases hc;exact he
    . cases hc
   unfold callDK
   cases hcc:c.callee with
   |invoke r n=>rfl
   |builtin b=>rfl
   | value f =>
     show Option.rec (motive:=fun _=>Opt) (jr E R qb o l h k) _ (asFn (evK l f))=_
     rw [eI]
     cases hf:asFn (l.ev f)with
     |none=>rfl
     | some p=>
       obtain⟨g,a,b⟩:=p
       have hv:l.ev f=.func (.func g) a b:=by
        unfold asFn at hf
        split at hf
        . rename_i he;cases hf;exact he
        . cases hf
       have hx: ∀h,aop E l.ev h o.op=some (.call g (a.toList++c.args.toList.map l.ev++b.toList),h):=by intro h;rw [ho];simp only [aop,hcc,hv,target]
       unfold jr cd
       cases qb with
       | false=>
         simp only [cond_false,hx,ct]
         show resDK (R.call g (a.toList++c.args.toList.map l.ev++b.toList) none h) k=_
         cases R.call g (a.toList++c.args.toList.map l.ev++b.toList) none h with
         |none=>rfl
         |some q=>obtain⟨x,rc,h2⟩:=q;cases x<;>rfl
       | true=>
         simp only [cond_true,hx,ct]
         show resDK (R.call g (a.toList++c.args.toList.map l.ev++b.toList) none {h with lo:=h.n}) (rB h k)=_
         cases R.call g (a.toList++c.args.toList.map l.ev++b.toList) none {h with lo:=h.n}with
         |none=>rfl
         | some q=>
           obtain⟨x,rc,h2⟩:=q
           cases x with
           |pan v=>rfl
           | ret v=>
             show rB h k v h2=_
             simp only [rB]
             cases xY h.n h2.lo<;>rfl
theorem wI{op:Op}(h:mW op=true):dm op=false:=by
 cases op<;>first|rfl|exact absurd h (by simp [mW])
theorem tZ (E:Env) (R:Rec) (cx:Cx) (ops:List Oper) (q:Nat) (K:Loc->Hp->List (Nat×Tch)->Opt): ∀(os:List Oper) (i:Nat) (l:Loc) (h:Hp) (tr:List (Nat×Tch)),
 lG E R cx ops q (fun _ l h tr=>K l h tr) os i l h tr=(match dB E R ops q os i l h tr with
  |none=>none
  |some (l',h',tr')=>K l' h' tr')
 | [],i,l,h,tr=>rfl
 | o :: os,i,l,h,tr=>by
   have ih:=tZ E R cx ops q K os
   show Option.rec (motive:=fun _=>Opt) none (fun b=>Bool.rec (lG E R cx ops q (fun _ l h tr=>K l h tr) os (i+1) (eR l o.dst (.tuple #[])) h tr) (qA E R cx q o (lG E R cx ops q (fun _ l h tr=>K l h tr) os) i l h tr) b) (m8 ops l o)=_
   rw [sZ]
   simp only [dB]
   cases bQ ops l.regs o with
   |none=>rfl
   | some b=>
     cases b with
     |false=>show lG E R cx ops q (fun _ l h tr=>K l h tr) os (i+1) (eR l o.dst (.tuple #[])) h tr=_;rw [ih,kh]
     | true=>
       show qA E R cx q o (lG E R cx ops q (fun _ l h tr=>K l h tr) os) i l h tr=_
       simp only []
       have hslow: ∀qb,dS E q i o.op=qb->jr E R qb o l h (fun v h'=>lG E R cx ops q (fun _ l h tr=>K l h tr) os (i+1) (eR l o.dst v) h' (fQ i tr (cb (l.evD (tmpsOf o.op.operands.toList)) qb o.op h h')))=
        (match(match cd E R (l.evD (tmpsOf o.op.operands.toList)) (dS E q i o.op) o h with
          |none=>none
          |some (v,h')=>dB E R ops q os (i+1) (l.put o.dst v) h' (fQ i tr (cb (l.evD (tmpsOf o.op.operands.toList)) (dS E q i o.op) o.op h h')))with
          |none=>none
          |some (l',h',tr')=>K l' h' tr'):=by
        intro qb hq
        rw [hq,tB]
        unfold jr
        cases cd E R l.ev qb o h with
        |none=>rfl
        |some p=>obtain⟨v,h'⟩:=p;show lG E R cx ops q _ os (i+1) (eR l o.dst v) h' _=_;rw [ih,kh]
       unfold qA
       cases hf:mW o.op with
       | false=>
         show q7 E R (nJ E q i o.op) o l h _=_
         rw [elseDK_eq,qi]
         exact hslow _ rfl
       | true=>
         have hn: ∀b (h h':Hp),cb (l.evD (tmpsOf o.op.operands.toList)) b o.op h h'=qH l o.op:=by
          intro b h h'
          have hna:dZ o.op=false:=by cases ho:o.op<;>first|rfl|(rw [ho]at hf;simp [mW]at hf)
          unfold cb qH iW
          rw [wI hf,hna];rfl
         simp only [hn]at hslow⊢
         cases hq:nJ E q i o.op with
         | true=>
           rw [qi]at hq
           exact hslow true hq
         | false=>
           rw [qi]at hq
           show opK o.op E R cx o.dst l h _ _=_
           rw [opK_eq,(fast_step (R:=R) hf (K:=fun _ _=>none)).2,tB,hq]
           cases cd E R l.ev false o h with
           |none=>rfl
           |some p=>obtain⟨v,h'⟩:=p;simp only [];rw [ih]
theorem codeK_eq(E:Env)(R:Rec)(M:CodeM)(hM: ∀cx c l h kn ka,M cx c l h kn ka=dp (R.code cx c l h) kn ka)(cx:Cx): ∀(c:Code) (l:Loc) (h:Hp) (kn:Loc->Hp->Opt) (ka:Ex->Loc->Hp->Opt),
 kH E R M cx c l h kn ka=dp (aD E R cx c l h) kn ka:=by
 intro c
 induction c with
 |skip=>intro l h kn ka;rfl
 |label n=>intro l h kn ka;rfl
 | region id ops draw=>
   intro l h kn ka
   cases draw with
   |false=>exact opsK_eq E R cx ops.toList kn ka ops.toList l h
   | true=>
     show drawK E R cx ops.toList l h kn=_
     unfold drawK drawKo
     simp only [aD,cond_true]
     generalize dQ ops.toList=os
     cases plan E os with
     |none=>rfl
     | some p=>
       obtain⟨q,ps⟩:=p
       show lG E R cx os q (fun _ l h tr=>Bool.rec none (kn l h) (dK tr ps)) os 0 l h []=_
       rw [tZ E R cx os q (fun l h tr=>Bool.rec none (kn l h) (dK tr ps))]
       simp only []
       cases dB E R os q os 0 l h []with
       |none=>rfl
       | some x=>
         obtain⟨a,b,c⟩:=x
         simp only []
         cases dK c ps<;>rfl
 | seq a b iha ihb=>
   intro l h kn ka
   show kH E R M cx a l h (fun l h=>kH E R M cx b l h kn ka) ka=_
   rw [iha,show(fun l h=>kH E R M cx b l h kn ka)=fun l h=>dp (aD E R cx b l h) kn ka from funext fun l=>funext fun h=>ihb l h kn ka]
   rw [nw _ _ _ _ _ (fun _ _ _ _=>rfl)]
   simp only [aD]
   cases aD E R cx a l h with
   |none=>rfl
   |some q=>obtain⟨e,l',h'⟩:=q;cases e<;>rfl
 | cond c a b iha ihb=>
   intro l h kn ka
   show Option.rec (motive:=fun _=>Opt) none (fun t=>Bool.rec (kH E R M cx b l h kn ka) (kH E R M cx a l h kn ka) t) (asBool (evK l c))=_
   rw [eI,iha,ihb]
   simp only [aD]
   cases l.ev c<;>(try rfl)
   rename_i t
   cases t<;>rfl
 | block id b ih=>
   intro l h kn ka
   show kH E R M cx b l h kn (fun e l h=>blkK e id kn ka l h)=_
   rw [ih]
   simp only [aD]
   cases aD E R cx b l h with
   |none=>rfl
   | some q=>
     obtain⟨e,l',h'⟩:=q
     cases e with
     |normal=>rfl
     |ret=>rfl
     |pan v=>rfl
     | exit i=>
       show Bool.rec (motive:=fun _=>Opt) (ka (.exit i) l' h') (kn l' h') (yf i id)=_
       simp only []
       cases yf i id<;>rfl
 | loop b ih=>
   intro l h kn ka
   show kH E R M cx b l h (fun l h=>M cx (.loop b) l h kn ka) ka=_
   rw [ih,show(fun l h=>M cx (.loop b) l h kn ka)=fun l h=>dp (R.code cx (.loop b) l h) kn ka from funext fun l=>funext fun h=>hM cx (.loop b) l h kn ka]
   rw [nw _ _ _ _ _ (fun _ _ _ _=>rfl)]
   simp only [aD]
   cases aD E R cx b l h with
   |none=>rfl
   |some q=>obtain⟨e,l',h'⟩:=q;cases e<;>rfl
 | rangeFunc f ps asg body _ _=>
   intro l h kn ka
   show dp (gk R cx (evK l f) ps asg body l h) kn ka=_
   rw [eI];rfl
 |exit id=>intro l h kn ka;rfl
 |scope b ih=>intro l h kn ka;exact ih l h kn ka
 |goto n=>intro l h kn ka;rfl
 |ret=>intro l h kn ka;rfl
 |refuse m=>intro l h kn ka;rfl

theorem ub(E:Env)(R:Rec)(fn:Func)(l:Loc)(h:Hp):doneK E R fn l h=qj E R fn l h:=by
 unfold doneK qj
 cases hd:l.dfs with
 |cons d ds=>rfl
 | nil=>
   simp only [bH]
   cases aR E l.regs h fn.results.toList<;>rfl
theorem callBK_eq(E:Env)(R:Rec)(f:FuncId)(args:List Value)(rc:Option (Value×Bool))(h:Hp):callBK E R f args rc h=iR E R f args rc h:=by
 unfold callBK iR
 cases E.fn f with
 |none=>rfl
 | some fn=>
   show Option.rec (motive:=fun _=>lg) none (fun body=>qN E R f args rc h fn body) fn.body=_
   simp only []
   cases fn.body with
   |none=>rfl
   | some body=>
     show qN E R f args rc h fn body=_
     unfold qN
     simp only []
     cases xY args.length fn.ntmps with
     |false=>rfl
     | true=>
       show leaveK E R fn _=_
       simp only [cond_true]
       cases R.code ⟨f,fn.ntmps,none⟩ body ⟨(Tr.blank (.tuple #[]) fn.ntmps fn.ntmps).setAll 0 args,[],rc⟩ h with
       |none=>rfl
       | some q=>
         obtain⟨e,l,h'⟩:=q
         cases e with
         |exit i=>rfl
         |pan v=>rfl
         |normal=>exact ub E R fn l h'
         |ret=>exact ub E R fn l h'

theorem callSK_eq(E:Env)(R:Rec)(f:FuncId)(args:List Value)(rc:Option (Value×Bool))(h:Hp):qR E R f args rc h=gG E R f args rc h:=by
 unfold qR gG
 cases E.orc f args with
 |none=>exact callBK_eq E R f args rc h
 |some v=>cases rc<;>rfl

theorem uB(E:Env): ∀n,(runK E n).rec'=run E n/\ ∀cx c l h kn ka,(runK E n).code cx c l h kn ka=dp ((run E n).code cx c l h) kn ka
 |0=>⟨rfl,fun _ _ _ _ _ _=>rfl⟩
 | n+1=>by
   obtain⟨h1,h2⟩:=uB E n
   have hc: ∀cx c l h kn ka,(runK E (n+1)).code cx c l h kn ka=dp ((run E (n+1)).code cx c l h) kn ka:=by
    intro cx c l h kn ka
    show kH E (runK E n).rec' (runK E n).code cx c l h kn ka=dp (aD E (run E n) cx c l h) kn ka
    rw [h1]
    exact codeK_eq E (run E n) (runK E n).code h2 cx c l h kn ka
   refine⟨?_,hc⟩
   show Rec.mk (fun f args rc h=>qR E (runK E n).rec' f args rc h) (fun cx c l h=>(runK E (n+1)).code cx c l h (fun l h=>some (.normal,l,h)) (fun e l h=>some (e,l,h)))=next E (run E n)
   rw [h1]
   unfold next
   congr 1
   . funext f args rc h;exact callSK_eq E (run E n) f args rc h
   . funext cx c l h;rw [hc,bind2_id];rfl
theorem runK_call(E:Env)(n:Nat)(f:FuncId)(args:List Value)(rc:Option (Value×Bool))(h:Hp):(runK E n).call f args rc h=(run E n).call f args rc h:=by
 rw [<-(uB E n).1];rfl

theorem envK_eq(fns:Tr Func)(tys:Tr TypeInfo)(eqs:List Nat):envK fns tys eqs=envOf fns tys eqs:=rfl

end
end Go.Ab

namespace Go.Ab
section
variable{E:Env}{ρ:Operand->Value}{h:Hp}
theorem o_move{x:Operand}:aop E ρ h (.move x)=some (.val (ρ x),h):=rfl
theorem o_assign{x:Operand}:aop E ρ h (.assign x)=some (.val (ρ x),h):=rfl
theorem o_load{t:TypeId}{a:Operand}:aop E ρ h (.load t a)=bO h (dP E h t (ρ a)):=rfl
theorem o_store{t:TypeId}{a x:Operand}:aop E ρ h (.store t a x)=eH (gc E h t (ρ a) (ρ x)):=rfl
theorem o_binOp{op:BinOp}{t u:TypeId}{x y:Operand}:aop E ρ h (.binOp op t x y u)=bO h (bD E op t x y (ρ x) (ρ y)):=rfl
theorem o_unOp{op:UnOp}{t:TypeId}{x:Operand}:aop E ρ h (.unOp op t x)=bO h (unP op (ρ x)):=rfl
theorem xz{f:FuncId}{a b:Array Operand}:aop E ρ h (.makeFunc (.func f) a b)=some (.val (.func (.func f) (a.map ρ) (b.map ρ)),h):=rfl
theorem o_slice{t:TypeId}{x:Operand}{l u m:Option Operand}:aop E ρ h (.slice t x l u m)=bO h (ep E t (ρ x) (l.map ρ) (u.map ρ) (m.map ρ)):=rfl
theorem wE{s:TypeId}{x:Operand}{i:Nat}:aop E ρ h (.fieldAddr s x i)=bO h (an E s (ρ x) i):=rfl
theorem o_field{s:TypeId}{x:Operand}{i:Nat}:aop E ρ h (.field s x i)=bO h (aq E s (ρ x) i):=rfl
theorem vW{t:TypeId}{x i:Operand}:aop E ρ h (.indexAddr t x i)=bO h (dE E t (ρ x) (ρ i)):=rfl
theorem o_index{t:TypeId}{x i:Operand}:aop E ρ h (.index t x i)=bO h (mg E t (ρ x) (ρ i)):=rfl
theorem o_extract{t:Operand}{i:Nat}:aop E ρ h (.extract t i)=bO h (match ρ t with| .tuple vs=>vs.toList[i]? |_=>none):=rfl
theorem o_build{t:TypeId}{ps:Array (Nat×Operand)}:aop E ρ h (.build t ps)=bO h (kW E t (ps.toList.map fun p=>(p.1,ρ p.2))):=rfl
theorem vu{t:TypeId}{n:Nat}{ps:Array (Nat×Operand)}:aop E ρ h (.buildSlice t n ps)=cv (iz E h t n (ps.toList.map fun p=>(p.1,ρ p.2))):=rfl
theorem wH{t:TypeId}{l c:Operand}:aop E ρ h (.makeSlice t l c)=cv (io E h t (ρ l) (ρ c)):=rfl
theorem uA{x:Operand}{s t:TypeId}{ok:Bool}:aop E ρ h (.typeAssert x s t ok)=bO h (lP E (ρ x) t ok):=rfl
theorem o_convert{s t:TypeId}{x:Operand}:aop E ρ h (.convert s t x)=cv (jd E h s t (ρ x)):=rfl
theorem o_lookup{t:TypeId}{m k:Operand}{ok:Bool}:aop E ρ h (.lookup t m k ok)=bO h (dA E h t (ρ m) (ρ k) ok):=rfl
theorem vU{t:TypeId}{m k v:Operand}:aop E ρ h (.mapUpdate t m k v)=eH (iV E h t (ρ m) (ρ k) (ρ v)):=rfl
theorem xG{t:TypeId}{m k:Operand}:aop E ρ h (.mapEntry t m k)=cv (iq E h t (ρ m) (ρ k)):=rfl
theorem uk{t:TypeId}{m s v:Operand}:aop E ρ h (.entryStore t m s v)=eH (jG h (ρ m) (ρ s) (ρ v)):=rfl
theorem o_callv{f:Operand}{as:Array Operand}{ts:Array TypeId}:aop E ρ h (.call ⟨.value f,as,ts⟩)=match target (ρ f) (as.toList.map ρ)with|none=>none|some x=>some (x,h):=rfl
theorem o_max{x y:Operand}{ts:Array TypeId}:aop E ρ h (.call ⟨.builtin .max,#[x,y],ts⟩)=bO h (eZ true (ρ x) [ρ y]):=rfl
theorem o_min{x y:Operand}{ts:Array TypeId}:aop E ρ h (.call ⟨.builtin .min,#[x,y],ts⟩)=bO h (eZ false (ρ x) [ρ y]):=rfl
theorem o_append{s x:Operand}{ts:Array TypeId}:aop E ρ h (.call ⟨.builtin .append,#[s,x],ts⟩)=cv (c9 E h ts.toList (ρ s) (ρ x)):=rfl
theorem o_copy{s x:Operand}{ts:Array TypeId}:aop E ρ h (.call ⟨.builtin .copy,#[s,x],ts⟩)=cv (copyV E h ts.toList (ρ s) (ρ x)):=rfl
end
theorem xp{h:Hp}{v:Value}:bO h (some v)=some (.val v,h):=rfl
theorem xU{h:Hp}{v:Value}:cv (some (h,v))=some (.val v,h):=rfl
theorem xn{h:Hp}:eH (some h)=some (.skip,h):=rfl
theorem eL(k:IntKind):li k k=true:=by rw [iv];simp
theorem b_add{E:Env}{t:TypeId}{x y:Operand}{k:IntKind}{m n:Int}:bD E .add t x y (.int k m) (.int k n)=some (.int k (au k (m+n))):=by simp [bD,eL,fI]
theorem b_sub{E:Env}{t:TypeId}{x y:Operand}{k:IntKind}{m n:Int}:bD E .sub t x y (.int k m) (.int k n)=some (.int k (au k (m-n))):=by simp [bD,eL,fI]
theorem b_mul{E:Env}{t:TypeId}{x y:Operand}{k:IntKind}{m n:Int}:bD E .mul t x y (.int k m) (.int k n)=some (.int k (au k (m*n))):=by simp [bD,eL,fI]
theorem me(m n:Int):jm m n=decide (m=n):=by rw [gP];by_cases h:m=n<;>simp [h]
theorem b_eql{E:Env}{t:TypeId}{x y:Operand}{k:IntKind}{m n:Int}:bD E .eql t x y (.int k m) (.int k n)=some (.bool (decide (m=n))):=by simp [bD,eL,fI,me]
theorem b_neq{E:Env}{t:TypeId}{x y:Operand}{k:IntKind}{m n:Int}:bD E .neq t x y (.int k m) (.int k n)=some (.bool (!decide (m=n))):=by simp [bD,eL,fI,me]
theorem b_lss{E:Env}{t:TypeId}{x y:Operand}{k:IntKind}{m n:Int}:bD E .lss t x y (.int k m) (.int k n)=some (.bool (decide (m<n))):=by simp [bD,eL,fI,fZ]
theorem b_leq{E:Env}{t:TypeId}{x y:Operand}{k:IntKind}{m n:Int}:bD E .leq t x y (.int k m) (.int k n)=some (.bool (decide (m<=n))):=by
 simp only [bD,eL,fI,fZ,cond_true]
 by_cases hx:m<=n
 . rw [decide_eq_true hx,decide_eq_false (by omega)];rfl
 . rw [decide_eq_false hx,decide_eq_true (by omega)];rfl
theorem b_gtr{E:Env}{t:TypeId}{x y:Operand}{k:IntKind}{m n:Int}:bD E .gtr t x y (.int k m) (.int k n)=some (.bool (decide (n<m))):=by simp [bD,eL,fI,fZ]
theorem b_geq{E:Env}{t:TypeId}{x y:Operand}{k:IntKind}{m n:Int}:bD E .geq t x y (.int k m) (.int k n)=some (.bool (decide (n<=m))):=by
 simp only [bD,eL,fI,fZ,cond_true]
 by_cases hx:n<=m
 . rw [decide_eq_true hx,decide_eq_false (by omega)];rfl
 . rw [decide_eq_false hx,decide_eq_true (by omega)];rfl
theorem o9{E:Env}{t:TypeId}{x y:Operand}{k:IntKind}{m n:Int}(h:n≠0):bD E .quo t x y (.int k m) (.int k n)=some (.int k (au k (m.tdiv n))):=by
 simp [bD,eL,fI,me,h]
theorem px{E:Env}{t:TypeId}{x y:Operand}{k:IntKind}{m n:Int}(h:n≠0):bD E .rem t x y (.int k m) (.int k n)=some (.int k (m.tmod n)):=by
 simp [bD,eL,fI,me,h]
theorem mm_max{k k':IntKind}{a b:Int}:eZ true (.int k a) [.int k' b]=some (.int k (max a b)):=by
 simp only [eZ,fZ,cond_true]
 by_cases h:a<b
 . rw [decide_eq_true h];simp only [cond_true];rw [Int.max_eq_right (by omega)]
 . rw [decide_eq_false h];simp only [cond_false];rw [Int.max_eq_left (by omega)]
theorem mm_min{k k':IntKind}{a b:Int}:eZ false (.int k a) [.int k' b]=some (.int k (min a b)):=by
 simp only [eZ,fZ,cond_false]
 by_cases h:b<a
 . rw [decide_eq_true h];simp only [cond_true];rw [Int.min_eq_right (by omega)]
 . rw [decide_eq_false h];simp only [cond_false];rw [Int.min_eq_left (by omega)]
theorem wrap64{n:Int}(h1: -9223372036854775808<=n)(h2:n<9223372036854775808):au .i64 n=n:=by
 unfold au
 cases n with
 | ofNat m=>
   have:yB m (hf .i64)=true:=by rw [yF];simp only [hf];have h2':(m:Int)<9223372036854775808:=h2;omega
   simp only [this,cond_true]
 | negSucc m=>
   have:yB m (hf .i64)=true:=by rw [yF];simp only [hf];have: -9223372036854775808<=Int.negSucc m:=h1;omega
   simp only [sgn,this,cond_true]
theorem pR{α:Type}{a:α}{P:α->Prop}:(∃b,some a=some b/\P b)↔P a:=⟨fun⟨b,h1,h2⟩=>by cases h1;exact h2,fun h=>⟨a,rfl,h⟩⟩
theorem wG{a:Bool}{P:Bool->Prop}:(∃t,Value.bool a=Value.bool t/\P t)↔P a:=⟨fun⟨b,h1,h2⟩=>by cases h1;exact h2,fun h=>⟨a,rfl,h⟩⟩
end Go.Ab
namespace Go.Ab
theorem aV{v:Value}{l:List Value}:ce (v::l) 0=v:=rfl
theorem bV{v:Value}{l:List Value}{i:Nat}:ce (v::l) (i+1)=ce l i:=rfl
end Go.Ab
namespace Go.Ab
section
variable{l:Loc}
theorem c_int{k:IntKind}{n:Int}:l.ev (.const (.int k n))=.int k n:=rfl
theorem c_bool{b:Bool}:l.ev (.const (.bool b))=.bool b:=rfl
theorem c_string{s:ByteArray}:l.ev (.const (.string s))=.string s:=rfl
theorem c_nilp:l.ev (.const (.pointer none))=.pointer none:=rfl
theorem c_nils:l.ev (.const (.slice none 0 0))=.slice none 0 0:=rfl
theorem c_nilm:l.ev (.const (.map none))=.map none:=rfl
theorem c_nilf:l.ev (.const .nilFunc)=.nilFunc:=rfl
theorem c_nili:l.ev (.const .nilIface)=.nilIface:=rfl
end
end Go.Ab
namespace Go.Ab
def one1:Option (List Value)->Option Value
 |some [v]=>some v
 |_=>none
theorem one1_some{v:Value}:one1 (some [v])=some v:=rfl
theorem xB{E:Env}{h:Hp}{t:TypeId}{b o:Nat}{s:Option Nat}(ht:E.agg t=some false):dP E h t (.pointer (some ⟨b,o,s⟩))=one1 (h.load b o 1):=by
 simp only [dP,ht]
 unfold one1
 rfl
end Go.Ab
namespace Go.Ab
def gv(want:Bool):Option Value->Option Bool
 |some (.bool b)=>some (bif b then want else !want)
 |some (.tuple _)=>some false
 |_=>none
noncomputable def gj(want:Bool)(rg:Tr Value):Option Oper->Option Bool
 |none=>some false
 | some o=>match o.dst with
   |none=>some false
   |some d=>gv want (rg.get d)
theorem xk{a:List Oper}{rg:Tr Value}{d:Option Tmp}{op:Op}{t:TypeId}{p:String}{af:Array Edge}{j:Nat}{want:Bool}:bQ a rg ⟨d,op,t,p,af,some (j,want)⟩=gj want rg (a[j]?):=by
 simp only [bQ,gj]
 cases a[j]? with
 |none=>rfl
 | some o=>
   simp only []
   cases o.dst with
   |none=>rfl
   | some d=>
     simp only [gv]
     cases rg.get d with
     |none=>rfl
     |some v=>cases v<;>rfl
theorem gj_some{want:Bool}{rg:Tr Value}{d:Tmp}{op:Op}{t:TypeId}{p:String}{af:Array Edge}{g:Option (Nat×Bool)}:gj want rg (some ⟨some d,op,t,p,af,g⟩)=gv want (rg.get d):=rfl
theorem gv_true{b:Bool}:gv true (some (.bool b))=some b:=by cases b<;>rfl
theorem gv_false{b:Bool}:gv false (some (.bool b))=some (!b):=by cases b<;>rfl
theorem gv_tuple{want:Bool}{x:Array Value}:gv want (some (.tuple x))=some false:=rfl
theorem u_not{b:Bool}:unP .not (.bool b)=some (.bool (!b)):=rfl
theorem target_fn{g:FuncId}{a b:Array Value}{args:List Value}:target (.func (.func g) a b) args=some (.call g (a.toList++args++b.toList)):=rfl
def bC(E:Env)(f:FuncId)(args:List Value)(h:Hp)(v:Value):Prop:=Ret E f args h fun v' h'=>v'=v/\Gr h h'
end Go.Ab
namespace Go.Ab
theorem bS{E:Env}{cx:Cx}{Q:dW}{k:List Fr}{l:Loc}{h:Hp}{b:Code}:Run E (lim E) cx Q (.code (.loop b)::k) .normal l h↔Run E (lim E) cx Q (.code b:: .code (.loop b)::k) .normal l h:=by
 rw [<-run_seq]
 simp only [Run]
 have:aD E (lim E) cx (.loop b) l h=aD E (lim E) cx (.seq b (.loop b)) l h:=by
  simp only [aD]
  cases aD E (lim E) cx b l h with
  |none=>rfl
  | some q=>
    obtain⟨e,l',h'⟩:=q
    cases e with
    |normal=>show(lim E).code cx (.loop b) l' h'=_;rw [rS];rfl
    |exit i=>rfl
    |ret=>rfl
    |pan v=>rfl
 rw [this]
def lenK(r:Option (cR×Hp))(h:Hp):Option Value->Option (cR×Hp)
 |some v=>some (.val v,h)
 |none=>r
theorem o_lenK{E:Env}{ρ:Operand->Value}{h:Hp}{x:Operand}{t:TypeId}:aop E ρ h (.call ⟨.builtin .len,#[x],#[t]⟩)=lenK (match ρ x with
 | .map (some r)=>match h.get r with
   |some (.map es _)=>match E.und t with
    |some (.map _ _)=>some (.val (.int .i64 (.ofNat es.length)),h)
    |_=>none
   |_=>none
 |_=>none) h (lh E t (ρ x)):=by
 simp only [aop,pop]
 cases lh E t (ρ x)with
 |some v=>rfl
 | none=>
   simp only [lenK]
   cases ρ x<;>rfl
theorem natOf_nn{i:Int}(h:0<=i):fT i=some i.toNat:=by
 cases i with
 |ofNat n=>rfl
 |negSucc n=>exact absurd h (by simp)
theorem idxP_in{k:IntKind}{i:Int}{n:Nat}(h0:0<=i)(h1:i<n):fK (.int k i) n=some i.toNat:=by
 simp only [fK,natOf_nn h0]
 have:yB i.toNat n=true:=by rw [yF];omega
 rw [this];rfl
theorem iN{k:IntKind}{i n:Nat}(h1:i<n):fK (.int k (i:Int)) n=some i:=by
 rw [idxP_in (Int.natCast_nonneg i) (by omega)];simp
theorem ia_slice{E:Env}{t e:TypeId}{k:Nat}{a:Addr}{n c:Nat}{v:Value}(hu:E.und t=some (.slice e))(hs:E.sz e=some k):dE E t (.slice (some a) n c) v=(fK v n).map fun i=>.pointer (some (d5 a (i*k))):=by
 simp only [dE,hu,hs]
 cases fK v n<;>rfl
end Go.Ab
namespace Go.Ab
theorem ar{E:Env}{cx:Cx}{o:Oper}{l:Loc}{K:Ex->Loc->Hp->Prop}{h:Hp}{f:FuncId}{args:List Value}{v:Value}(hr:bC E f args h v)(hk: ∀h',Gr h h'->K .normal (l.put o.dst v) h'):eh E cx o l K (some (.call f args,h)):=
 step_ret hr fun v' h' ⟨e,g⟩=>by rw [e];exact hk h' g
theorem rG{E:Env}{K:Value->Hp->Prop}{f:FuncId}{args:List Value}{h:Hp}{v:Value}(hr:bC E f args h v)(hk: ∀h',Gr h h'->K v h'):iL E K (some (.call f args,h)):=
 tt hr fun v' h' ⟨e,g⟩=>by rw [e];exact hk h' g
theorem bC.of{E:Env}{f:FuncId}{args:List Value}{h:Hp}{v:Value}(hr:Ret E f args h fun v' h'=>v'=v/\Gr h h'):bC E f args h v:=hr
end Go.Ab
namespace Go.Ab
section
variable(E:Env)(cx:Cx)(Q:dW)
def GStep(a:List Oper)(o:Oper)(os:List Oper)(k:List Fr)(l:Loc)(h:Hp):Option Bool->Prop
 |some true=>eh E cx o l (fun e l' h'=>Run E (lim E) cx Q (.ops a os::k) e l' h') (aop E l.ev h o.op)
 |some false=>Run E (lim E) cx Q (.ops a os::k) .normal (l.put o.dst (.tuple #[])) h
 |none=>False
def CStep(a b:Code)(k:List Fr)(l:Loc)(h:Hp):Value->Prop
 | .bool true=>Run E (lim E) cx Q (.code a::k) .normal l h
 | .bool false=>Run E (lim E) cx Q (.code b::k) .normal l h
 |_=>False
def rH(a:List Oper)(q:Nat)(ps:List (Nat×Nat))(o:Oper)(os:List Oper)(i:Nat)(tr:List (Nat×Tch))(k:List Fr)(l:Loc)(h:Hp):Option Bool->Bool->Prop
 |some true,false=>iL E (fun v h'=>Run E (lim E) cx Q (.opsD a q ps os (i+1) (fQ i tr (cb l.ev false o.op h h'))::k) .normal (l.put o.dst v) h') (aop E l.ev h o.op)
 |some true,true=>iL E (fun v h'=>xY h.n h'.lo=true/\Run E (lim E) cx Q (.opsD a q ps os (i+1) (fQ i tr (cb l.ev true o.op h h))::k) .normal (l.put o.dst v) {h' with lo:=h.lo}) (aop E l.ev {h with lo:=h.n} o.op)
 |some false,_=>Run E (lim E) cx Q (.opsD a q ps os (i+1) tr::k) .normal (l.put o.dst (.tuple #[])) h
 |none,_=>False
end
section
variable{E:Env}{cx:Cx}{Q:dW}{k:List Fr}{l:Loc}{h:Hp}
theorem r_ops{a os:List Oper}{o:Oper}:Run E (lim E) cx Q (.ops a (o::os)::k) .normal l h↔GStep E cx Q a o os k l h (bQ a l.regs o):=by
 rw [tO]
 cases bQ a l.regs o with
 |none=>exact⟨fun⟨_,e,_⟩=>(by cases e),fun h=>h.elim⟩
 | some b=>
   rw [pR]
   cases b with
   |true=>rw [if_pos rfl];exact then_step
   |false=>rw [if_neg (by simp)];exact xZ
theorem g_true{a os:List Oper}{o:Oper}:GStep E cx Q a o os k l h (some true)↔eh E cx o l (fun e l' h'=>Run E (lim E) cx Q (.ops a os::k) e l' h') (aop E l.ev h o.op):=xZ
theorem g_false{a os:List Oper}{o:Oper}:GStep E cx Q a o os k l h (some false)↔Run E (lim E) cx Q (.ops a os::k) .normal (l.put o.dst (.tuple #[])) h:=xZ
theorem r_cond{c:Operand}{a b:Code}:Run E (lim E) cx Q (.code (.cond c a b)::k) .normal l h↔CStep E cx Q a b k l h (l.ev c):=by
 rw [run_cond]
 cases l.ev c<;>(try (exact⟨fun⟨_,e,_⟩=>(by cases e),fun h=>h.elim⟩))
 rename_i t
 rw [wG]
 cases t with
 |true=>rw [if_pos rfl];exact xZ
 |false=>rw [if_neg (by simp)];exact xZ
theorem c_true{a b:Code}:CStep E cx Q a b k l h (.bool true)↔Run E (lim E) cx Q (.code a::k) .normal l h:=xZ
theorem c_false{a b:Code}:CStep E cx Q a b k l h (.bool false)↔Run E (lim E) cx Q (.code b::k) .normal l h:=xZ
theorem r_opsD{a os:List Oper}{o:Oper}{q i:Nat}{ps:List (Nat×Nat)}{tr:List (Nat×Tch)}:Run E (lim E) cx Q (.opsD a q ps (o::os) i tr::k) .normal l h↔rH E cx Q a q ps o os i tr k l h (bQ a l.regs o) (dS E q i o.op):=by
 rw [run_opsD]
 cases bQ a l.regs o with
 |none=>exact⟨fun⟨_,e,_⟩=>(by cases e),fun h=>h.elim⟩
 | some b=>
   rw [pR]
   cases b with
   | true=>
     rw [if_pos rfl]
     cases dS E q i o.op with
     |true=>rw [if_pos rfl];exact xZ
     |false=>rw [if_neg (by simp)];exact xZ
   |false=>rw [if_neg (by simp)];exact xZ
theorem d_skip{a os:List Oper}{o:Oper}{q i:Nat}{ps:List (Nat×Nat)}{tr:List (Nat×Tch)}{b:Bool}:rH E cx Q a q ps o os i tr k l h (some false) b↔Run E (lim E) cx Q (.opsD a q ps os (i+1) tr::k) .normal (l.put o.dst (.tuple #[])) h:=xZ
theorem jS{i:Nat}{tr:List (Nat×Tch)}:fQ i tr none=tr:=rfl
theorem aY{i:Nat}{b:Tch}{tr:List (Nat×Tch)}:fQ i tr (some b)=(i,b)::tr:=rfl
theorem bu{tr:List (Nat×Tch)}:dK tr []=true:=rfl
theorem guard_no{a:List Oper}{rg:Tr Value}{d:Option Tmp}{op:Op}{t:TypeId}{p:String}{af:Array Edge}:bQ a rg ⟨d,op,t,p,af,none⟩=some true:=rfl
end
end Go.Ab
namespace Go.Ab
theorem b_eqlB{E:Env}{t:TypeId}{x y:Operand}{a b:Bool}(hu:E.und t=some .bool):bD E .eql t x y (.bool a) (.bool b)=some (.bool (bif a then b else !b)):=by
 simp [bD,eC,ez,hu]
theorem b_neqB{E:Env}{t:TypeId}{x y:Operand}{a b:Bool}(hu:E.und t=some .bool):bD E .neq t x y (.bool a) (.bool b)=some (.bool (!(bif a then b else !b))):=by
 simp [bD,eC,ez,hu]
theorem same_bool{d:Bool}:(bif d then d else !d)=true:=by cases d<;>rfl
end Go.Ab
namespace Go.Ab
noncomputable def boxR(h:Hp)(t:TypeId):Value->Option (cR×Hp)
 | .chan _=>none
 |v=>some (.val (ptrTo h.n),h.new (.cells (Tr.ofList (ag v)) (ag v).length t 1))
theorem o_boxR{E:Env}{ρ:Operand->Value}{h:Hp}{t:TypeId}{x:Operand}:aop E ρ h (.box t x)=boxR h t (ρ x):=by
 simp only [aop];cases ρ x<;>rfl
noncomputable def allocR(h:Hp)(t:TypeId):Option (List Value)->Option (cR×Hp)
 |none=>none
 |some z=>some (.val (ptrTo h.n),h.new (.cells (Tr.ofList z) z.length t 1))
theorem o_allocR{E:Env}{ρ:Operand->Value}{h:Hp}{t:TypeId}:aop E ρ h (.alloc t)=allocR h t (E.zero t):=by
 simp only [aop];cases E.zero t<;>rfl
section
variable{E:Env}{cx:Cx}{o:Oper}{l:Loc}{K:Ex->Loc->Hp->Prop}{h:Hp}
theorem aH{ops:List Oper}(h:(ops.any oC&&ops.all (mY ops.length))=false):dQ ops=ops:=by unfold dQ;rw [h];rfl
theorem aC{Q:dW}{k:List Fr}{id:Nat}{ops:Array Oper}{q:Nat}{ps:List (Nat×Nat)}{os:List Oper}(hh:dQ ops.toList=os)(hp:plan E os=some (q,ps))(hr:Run E (lim E) cx Q (.opsD os q ps os 0 []::k) .normal l h):Run E (lim E) cx Q (.code (.region id ops true)::k) .normal l h:=(run_draw hh hp).2 hr
end
theorem quiet_ok{h h':Hp}(g:Gr {h with lo:=h.n} h'):xY h.n h'.lo=true:=g.hlo
theorem gr_lo{h h':Hp}(g:Gr {h with lo:=h.n} h'):Gr h {h' with lo:=h.lo}:=
 ⟨g.ok0,g.ok,g.n,g.get,fun _ _ h=>h⟩
end Go.Ab
namespace Go.Ab
theorem hush_s{E:Env}{q i:Nat}{op:Op}:dS E q i op=(decide (q/2 ^i%2=1)&&decide (3<=cls E op)):=by
 unfold dS
 rw [Nat.testBit_eq_decide_div_mod_eq,du]
end Go.Ab
namespace Go.Ab
theorem vS{E:Env}{K:Value->Hp->Prop}{f:FuncId}{args:List Value}{h:Hp}{v:Value}(hr:bC E f args {h with lo:=h.n} v)(hk: ∀h',Gr h h'->K v h'):
 iL E (fun v h'=>xY h.n h'.lo=true/\K v {h' with lo:=h.lo}) (some (.call f args,{h with lo:=h.n})):=
 rG hr fun h' g=>⟨quiet_ok g,hk _ (gr_lo g)⟩
end Go.Ab
namespace Go.Ab
section
variable(E:Env)(cx:Cx)(Q:dW)(a:List Oper)(q:Nat)(ps:List (Nat×Nat))(o:Oper)(os:List Oper)(i:Nat)(k:List Fr)(l:Loc)
def DN(tr:Hp->List (Nat×Tch))(x:Option (cR×Hp)):Prop:=iL E (fun v h'=>Run E (lim E) cx Q (.opsD a q ps os (i+1) (tr h')::k) .normal (l.put o.dst v) h') x
def DQ(h:Hp)(tr:List (Nat×Tch))(x:Option (cR×Hp)):Prop:=iL E (fun v h'=>xY h.n h'.lo=true/\Run E (lim E) cx Q (.opsD a q ps os (i+1) tr::k) .normal (l.put o.dst v) {h' with lo:=h.lo}) x
end
section
variable{E:Env}{cx:Cx}{Q:dW}{a:List Oper}{q:Nat}{ps:List (Nat×Nat)}{o:Oper}{os:List Oper}{i:Nat}{k:List Fr}{l:Loc}{h:Hp}{tr:List (Nat×Tch)}{tf:Hp->List (Nat×Tch)}
theorem dn_loud:rH E cx Q a q ps o os i tr k l h (some true) false↔DN E cx Q a q ps o os i k l (fun h'=>fQ i tr (cb l.ev false o.op h h')) (aop E l.ev h o.op):=xZ
theorem dn_quiet:rH E cx Q a q ps o os i tr k l h (some true) true↔DQ E cx Q a q ps o os i k l h (fQ i tr (cb l.ev true o.op h h)) (aop E l.ev {h with lo:=h.n} o.op):=xZ
theorem dn_val{v:Value}{h':Hp}:DN E cx Q a q ps o os i k l tf (some (.val v,h'))↔Run E (lim E) cx Q (.opsD a q ps os (i+1) (tf h')::k) .normal (l.put o.dst v) h':=xZ
theorem dn_skip{h':Hp}:DN E cx Q a q ps o os i k l tf (some (.skip,h'))↔Run E (lim E) cx Q (.opsD a q ps os (i+1) (tf h')::k) .normal (l.put o.dst (.tuple #[])) h':=xZ
theorem dg{f:FuncId}{args:List Value}{P:Value->Hp->Prop}(hr:Ret E f args h P)(hk: ∀v h',P v h'->Run E (lim E) cx Q (.opsD a q ps os (i+1) (tf h')::k) .normal (l.put o.dst v) h'):DN E cx Q a q ps o os i k l tf (some (.call f args,h)):=tt hr hk
theorem cE{f:FuncId}{args:List Value}{v:Value}(hr:bC E f args h v)(hk: ∀h',Gr h h'->Run E (lim E) cx Q (.opsD a q ps os (i+1) (tf h')::k) .normal (l.put o.dst v) h'):DN E cx Q a q ps o os i k l tf (some (.call f args,h)):=rG hr hk
theorem sf{f:FuncId}{args:List Value}{v:Value}(hr:bC E f args {h with lo:=h.n} v)(hk: ∀h',Gr h h'->Run E (lim E) cx Q (.opsD a q ps os (i+1) tr::k) .normal (l.put o.dst v) h'):DQ E cx Q a q ps o os i k l h tr (some (.call f args,{h with lo:=h.n})):=vS hr hk
end
end Go.Ab
namespace Go.Ab
theorem ah{b:Nat}:ptrTo b=.pointer (some ⟨b,0,none⟩):=rfl
end Go.Ab

namespace Go.Ab
open Go.ChangeShapes Go.WideShapes Go.RowKit

theorem len4{α:Type}{l:List α}(h:l.length=4): ∃a b c d,l=[a,b,c,d]:=by
 match l,h with
 | [a,b,c,d],_=>exact⟨a,b,c,d,rfl⟩
theorem len2{α:Type}{l:List α}(h:l.length=2): ∃a b,l=[a,b]:=by
 match l,h with
 | [a,b],_=>exact⟨a,b,rfl⟩
section
variable{H:Type}{enc:TypeId×Value->H}{P:Program}
theorem oA(hl:laidOutB P=true){W W':World}(hb:Below W.heap.size W W'): ∀{ts:List TypeId} {vs:List Value} {ds:List (DataW H)} {ps:List MemPlace},(ts.all fun t=>P.readableRec t&&decide (t<P.types.size))=true->
 DataW.TrodAll enc P W 0 (fun _=>true) true ts vs ds ps->(∀x∈ps,x.block<W.heap.size)->DataW.TrodAll enc P W' 0 (fun b=>decide (b<W.heap.size)) true ts vs ds ps
 | [],vs,ds,ps,_,h,_=>by
   obtain⟨rfl,rfl,rfl⟩:=trodAll_nil h
   exact rfl
 | t::ts,vs,ds,ps,hts,h,hlt=>by
   obtain⟨v,vs1,d,ds1,p,q,rfl,rfl,rfl,h1,h2⟩:=trodAll_cons h
   simp only [List.all_cons,ym,decide_eq_true_eq]at hts
   exact⟨p,q,Below.trod hl hts.1.1 hts.1.2 h1 hb (fun x hx=>hlt x (by simp [hx])),oA hl hb hts.2 h2 (fun x hx=>hlt x (by simp [hx])),rfl⟩
theorem oy{f:Func}{s:ChangeSpec}{apart handsOn:Bool}{W W':World}{args:Array Value}{ds:List (DataW H)}{before:List MemPlace}{bt:TypeId}
 (hl:laidOutB P=true) (hts:(f.params.toList.all fun t=>P.readableRec t&&decide (t<P.types.size))=true) (hv:s.vars=[])
 (hW:DataW.Whole enc P f.params.toList s.vars apart W args.toList ds [] before) (hfn:s.fn H (ds++[])={results:=[.lit (.bool true)],args:=ds}) (hb:Below W.heap.size W W')
 (hbt:P.underlying bt=some .bool) (hrt:f.resultTypes=#[bt]):
 s.post enc P f apart true handsOn false W args (.bool true) W':=by
 have hlt:=hW.lt
 have hW':=hW
 obtain⟨p,q,hA,hV,rfl,hz,hn⟩:=hW
 rw [hv]at hV
 obtain⟨_,rfl⟩:=trodVars_none hV
 refine⟨ds,[],_,[],p,[],hW',?_,?_,?_,⟨hb.os,hb.output,fun i hi=>?_⟩,fun h=>by cases h⟩
 . rw [hfn,hrt]
   exact trodAll_cons_mk (shut_bool hbt _) trodAll_mk0
 . rw [hfn]
   exact oA hl hb hts hA (fun x hx=>hlt x (by simpa using hx))
 . rw [hfn,hv];rfl
 . rw [hb.block i hi]
   split
   . rename_i h1 h2;rw [h1]at h2;cases h2;exact⟨rfl,rfl,rfl,fun _ _=>rfl⟩
   . rename_i h1 h2;rw [h1]at h2;cases h2;exact .inr ⟨rfl,rfl⟩
   . rfl

end
end Go.Ab

namespace Go.Ab
open Go.ChangeShapes Go.WideShapes Go.RowKit
noncomputable section

def gQ(n:Nat):Value->Value
 | .bool b=>.bool b
 | .int k i=>.int k i
 | .string s=>.string s
 | .pointer none=>.pointer none
 | .pointer (some a)=>if a.spot=none/\a.block<n then .pointer (some ⟨a.block+16,a.off,none⟩)else poison
 | .slice none 0 0=>.slice none 0 0
 | .slice (some a) len cap=>if len<=cap then(if a.spot=none/\a.block<n then .slice (some ⟨a.block+16,a.off,none⟩) len cap else .slice (some ⟨0,0,none⟩) len cap)else poison
 |_=>poison
def absA(n:Nat):Value->Value
 | .agg cs=>.agg ⟨cs.toList.map (gQ n)⟩
 |v=>gQ n v
def absO(n:Nat):Obj->Blk
 | .cells cs _ _=>.cells (Tr.ofList (cs.toList.map (gQ n))) (cs.toList.map (gQ n)).length 0 0
 |_=>.dead
def hpW(W:World):Hp:={n:=16+W.heap.size,t:=Tr.ofList (yk 16 .dead++W.heap.toList.map (absO W.heap.size)),lo:=16+W.heap.size}
def muW(W:World):Mu:=fun b=>if b<16 then .dead else match W.heap[b-16]? with
 |some (.cells cs _ _)=>.blk (b-16) 0 cs.size
 |some _=>.dead
 |none=>.none

theorem hpW_ok(W:World):(hpW W).t.Sized (hpW W).n:=by
 have h:=Tr.sized_ofList (yk 16 Blk.dead++W.heap.toList.map (absO W.heap.size))
 have hl:(yk 16 Blk.dead++W.heap.toList.map (absO W.heap.size)).length=16+W.heap.size:=by rw [yi,yr,List.length_map,Array.length_toList]
 rw [hl]at h
 exact h
theorem hpW_dead(W:World){b:Nat}(h:b<16):(hpW W).get b=some .dead:=by
 show(Tr.ofList _).get b=_
 rw [Tr.get_ofList,yd (by simpa using h),yC,if_pos h]
theorem o5(W:World)(c:Nat):(hpW W).get (c+16)=(W.heap[c]?).map (absO W.heap.size):=by
 show(Tr.ofList _).get (c+16)=_
 rw [Tr.get_ofList,yb (by simp)]
 simp
theorem kQ(W:World)(c:Nat):muW W (c+16)=match W.heap[c]? with
 |some (.cells cs _ _)=>.blk c 0 cs.size
 |some _=>.dead
 |none=>.none:=by
 unfold muW
 rw [if_neg (by omega),show c+16-16=c by omega]
theorem arel_W{W:World}{a:Addr}(h:a.spot=none/\a.block<W.heap.size):dC (muW W) ⟨a.block+16,a.off,none⟩ a:=by
 obtain⟨b,o,s⟩:=a
 obtain⟨h1,h2⟩:=h
 simp only []at h1 h2
 subst h1
 unfold dC
 rw [kQ]
 rw [ye h2]
 cases W.heap[b]<;>simp
theorem vrel_V(W:World)(v:Value):ao (muW W) (gQ W.heap.size v) v:=by
 cases v<;>(try exact .poison _)
 . exact .bool _
 . exact .int _ _
 . exact .string _
 . rename_i a
   cases a with
   |none=>exact .nilp
   | some a=>
     simp only [gQ]
     split
     . exact .ptr (arel_W ‹_›)
     . exact .poison _
 . rename_i a len cap
   cases a with
   | none=>
     cases len with
     | zero=>cases cap with
       |zero=>exact .nils
       |succ n=>exact .poison _
     |succ n=>exact .poison _
   | some a=>
     simp only [gQ]
     split
     . rename_i hlc
       split
       . rename_i h
         refine .slice hlc ?_
         have:=arel_W h
         obtain⟨b,o,s⟩:=a
         obtain⟨h1,h2⟩:=h
         simp only []at h1 h2
         subst h1
         unfold dh
         rw [kQ]
         rw [ye h2]
         cases W.heap[b]<;>simp
       . refine .slice hlc ?_
         unfold dh
         have:muW W 0=.dead:=by simp [muW]
         rw [this]
         exact ya _
     . exact .poison _
theorem vrel_A(W:World)(v:Value):ao (muW W) (absA W.heap.size v) v:=by
 cases v
 case agg cs=>
  refine .agg (by simp) fun i x x' h1 h2=>?_
  simp only [yc,yp]at h1
  obtain⟨y,h3,rfl⟩:=h1
  rw [h3]at h2
  cases h2
  exact vrel_V W _
 all_goals (unfold absA;exact vrel_V W _)
theorem hrelW(W:World):aF (muW W) (hpW W) W:=by
 refine⟨hpW_ok W,fun b c base top hm=>?_,fun b hm=>?_,fun b b' c base top base' top' h1 h2=>?_,fun b hm=>?_⟩
 . have hb:16<=b:=by
    rcases yn b 16 with h|h
    . unfold muW at hm;rw [if_pos h]at hm;cases hm
    . exact h
   obtain⟨k,rfl⟩: ∃k,b=k+16:=⟨b-16,by omega⟩
   rw [kQ]at hm
   split at hm
   next cs el fz ho=>
    cases hm
    refine⟨absO W.heap.size (.cells cs el fz),_,by rw [o5,ho];rfl,ho,cs,el,fz,rfl,rfl,by simp,Tr.sized_ofList _,fun i v hv=>?_,fun h=>absurd rfl h⟩
    rw [Tr.get_ofList]at hv
    simp only [yc,yp]at hv
    obtain⟨y,h3,rfl⟩:=hv
    exact⟨y,by simpa using h3,vrel_V W y⟩
   next=>cases hm
   next=>cases hm
 . rcases yn b 16 with h|h
   . exact hpW_dead W h
   . obtain⟨k,rfl⟩: ∃k,b=k+16:=⟨b-16,by omega⟩
     rw [kQ]at hm
     split at hm
     next=>cases hm
     next o ho1 ho2=>
      rw [o5,ho2]
      cases o<;>first|rfl|exact absurd rfl (ho1 _ _ _)
     next=>cases hm
 . have key: ∀b c base top,muW W b=.blk c base top->b=c+16:=by
    intro b c base top hm
    rcases yn b 16 with h|h
    . unfold muW at hm;rw [if_pos h]at hm;cases hm
    . obtain⟨k,rfl⟩: ∃k,b=k+16:=⟨b-16,by omega⟩
      rw [kQ]at hm
      split at hm<;>cases hm
      rfl
   rw [key b c _ _ h1,key b' c _ _ h2]
 . show b<16+W.heap.size
   rcases yn b 16 with h|h
   . omega
   . obtain⟨k,rfl⟩: ∃k,b=k+16:=⟨b-16,by omega⟩
     rw [kQ]at hm
     have:k<W.heap.size:=by
      rcases yn k W.heap.size with h2|h2
      . exact h2
      . rw [Array.getElem?_eq_none h2]at hm;exact absurd rfl hm
     omega
theorem globW(W:World):jE (muW W):=by
 intro g hg
 unfold dC
 have:muW W g=.dead:=by unfold muW;rw [if_pos hg]
 simp only [this]
theorem belowW{W w':World}{mu':Mu}{h':Hp}(e:Ext (muW W) (hpW W) W mu' h' w'):Below W.heap.size W w':=by
 refine⟨e.os,e.tape,e.output,e.wsize,fun c hc=>?_⟩
 cases ho:W.heap[c]with
 | cells cs el fz=>
   have h1:W.heap[c]? =some (.cells cs el fz):=by rw [ye hc,ho]
   have h2:muW W (c+16)=.blk c 0 cs.size:=by rw [kQ,h1]
   exact(e.ro (c+16) c 0 cs.size _ _ 0 h2 (by rw [o5,h1];rfl)).1
 | _ =>
   refine e.frame c hc fun b base top hm=>?_
   rcases yn b 16 with h|h
   . unfold muW at hm;rw [if_pos h]at hm;cases hm
   . obtain⟨k,rfl⟩: ∃k,b=k+16:=⟨b-16,by omega⟩
     rw [kQ]at hm
     split at hm
     next cs' el' fz' ho'=>
      cases hm
      rw [ye hc,ho]at ho'
      cases ho'
     next=>cases hm
     next=>cases hm
theorem calls_W{E:Env}{P:Program}(ok:EOk E P){f:FuncId}{args:Array Value}{W:World}(hr:bC E f (args.toList.map (absA W.heap.size)) (hpW W) (.bool true)):
 Calls P f args W fun e w'=>e=.returned (.bool true)/\Below W.heap.size W w':=by
 obtain⟨v,h',hl,rfl,g⟩:=hr
 intro cs
 obtain⟨_,h1⟩:=lim_ok ok _ _ _ _ _ _ _ hl
 have ha:VL (muW W) (args.toList.map (absA W.heap.size)) args.toList:=by
  refine⟨by simp,fun i x x' h1 h2=>?_⟩
  simp only [yc,yp]at h1
  obtain⟨y,h3,rfl⟩:=h1
  rw [h3]at h2
  cases h2
  exact vrel_A W _
 obtain⟨mu',w',rcC',fr,k1,k2,k3,k4,k5,k6,k7⟩:=h1 (muW W) W args none cs .normal (hrelW W) (globW W) ha trivial (.inl rfl)
 have:=k4.normal
 subst this
 obtain⟨v',l1,l2⟩:=k6
 cases l2
 obtain⟨fn,r1,r2⟩:=l1.res
 exact⟨.returned (.bool true),w',fr,⟨rfl,belowW k2⟩,k5,k7,l1.mode,l1.defers,l1.kind,fn,r1,r2⟩
theorem load_W{W:World}{a:Addr}{i:Nat}{v:Value}(hsp:a.spot=none)(h:W.cell? (a.add i)=some v):(hpW W).load (a.block+16) (a.off+i) 1=some [gQ W.heap.size v]:=by
 obtain⟨b,o,s⟩:=a
 simp only []at hsp
 subst hsp
 have he:(Addr.mk b o none).add i=⟨b,o+i,none⟩:=by
  unfold Addr.add
  split
  . rename_i h;subst h;rfl
  . rfl
 rw [he]at h
 unfold World.cell? at h
 simp only []at h
 split at h
 next cs el fz ho=>
  have hr:Row (hpW W) (b+16) (cs.toList.map (gQ W.heap.size)) 0:=⟨_,_,by rw [o5,ho];rfl,Tr.sized_ofList _,fun j=>Tr.get_ofList _ j⟩
  refine hr.load1 ?_
  rw [yc]
  simp at h
  simp [h]
 all_goals (first|cases h|skip)
end
end Go.Ab

namespace Go.Ab
def argEq:Value->Value->Bool
 | .int k a,.int k' b=>li k k'&&jm a b
 | .bool a,.bool b=>bif a then b else !b
 | .string s,.string u=>fu (aE s) (aE u)
 |_,_=>false
def l8:List Value->List Value->Bool
 | [],[]=>true
 |a::l,b::m=>argEq a b&&l8 l m
 |_,_=>false
def orcOf:List (Nat×List Value×Value)->Nat->List Value->Option Value
 | [],_,_=>none
 |(f,as,v)::l,g,args=>bif yf f g&&l8 as args then some v else orcOf l g args
theorem ug{a b:Value}(h:argEq a b=true):a=b:=by
 unfold argEq at h
 split at h
 . rename_i k m k' n
   simp only [ym]at h
   have h1:k=k':=by simpa [iv]using h.1
   have h2:m=n:=by simpa [gP]using h.2
   rw [h1,h2]
 . rename_i a b
   cases a<;>cases b<;>first|rfl|cases h
 . rename_i s u
   have this:s.data.toList=u.data.toList:=by
    have:=h
    rw [ik]at this
    simpa [aE]using this
   cases s with|mk a=>cases u with|mk b=>rw [show a=b from Array.ext' this]
 . cases h
theorem sF: ∀{a b:List Value},l8 a b=true->a=b
 | [],[],_=>rfl
 | [],_::_,h=>by simp [l8]at h
 |_::_,[],h=>by simp [l8]at h
 | a::x,b::y,h=>by
   simp only [l8,ym]at h
   rw [sF h.2,ug h.1]
theorem tA{P:Nat->List Value->Value->Prop}: ∀{l:List (Nat×List Value×Value)},(∀e∈l,P e.1 e.2.1 e.2.2)-> ∀{g:Nat} {args:List Value} {v:Value},orcOf l g args=some v->P g args v
 | [],_,g,args,v,h=>by cases h
 | (f,as,x)::l,hl,g,args,v,h=>by
   simp only [orcOf]at h
   cases hb:yf f g&&l8 as args with
   | true=>
     rw [hb]at h
     cases h
     simp only [ym]at hb
     have h1:=yq hb.1
     have h2:=sF hb.2
     subst h1
     subst h2
     exact hl _ (yh)
   | false=>
     rw [hb]at h
     exact tA (fun e he=>hl e (yv _ he)) h
def isVal(v:Value)(r:Option (Out×Option (Value×Bool)×Hp)):Bool:=match r with
 |some (.ret u,none,_)=>argEq u v
 |_=>false
theorem isVal_ret{v:Value}{r:Option (Out×Option (Value×Bool)×Hp)}(h:isVal v r=true): ∃h',r=some (.ret v,none,h'):=by
 unfold isVal at h
 split at h
 . rw [ug h];exact⟨_,rfl⟩
 . cases h
def kK(E:Env)(P:Program)(e:Nat×List Value×Value):Prop:=(∃fn,E.fn e.1=some fn/\fn.body.isSome=true)/\OrcAt P e.1 e.2.1 e.2.2
theorem known_of{E:Env}{P:Program}(ok:EOk E P){n:Nat}{f:Nat}{args:List Value}{v:Value}(ha:(args.all bZ&&bZ v)=true)(hr:isVal v ((runK E n).call f args none hp0)=true):kK E P (f,args,v):=by
 simp only [ym]at ha
 obtain⟨h',hr⟩:=isVal_ret hr
 rw [runK_call]at hr
 exact xH ok ha.1 ha.2 hr
theorem kK.with{E:Env}{P:Program}{o:Nat->List Value->Option Value}{e:Nat×List Value×Value}(k:kK E P e):kK (mV E o) P e:=k
theorem kK.without{E:Env}{P:Program}{o:Nat->List Value->Option Value}{e:Nat×List Value×Value}(k:kK (mV E o) P e):kK E P e:=k
theorem eok_table{E:Env}{P:Program}(ok:EOk E P){l:List (Nat×List Value×Value)}(hl: ∀e∈l,kK E P e):EOk (mV E (orcOf l)) P:=
 eok_with ok fun _ _ _ h=>tA (P:=fun g args v=>kK E P (g,args,v)) hl h
end Go.Ab

namespace Go.Ab

inductive Ob where
 |row (l:List Value) (md:Nat)
 |map (es:List (Value×Value×Nat)) (c:Nat)
 |loop (x:eo)
 |dfr
def Has(h:Hp)(b:Nat):Ob->Prop
 | .row l md=>Row h b l md
 | .map es c=>h.get b=some (.map es c)
 | .loop x=>h.get b=some (.loop x)
 | .dfr=>h.get b=some .dfr
theorem Row.of_get{h h':Hp}{b:Nat}{l:List Value}{md:Nat}(e:h'.get b=h.get b)(k:Row h b l md):Row h' b l md:=by
 obtain⟨t,el,a,c,d⟩:=k;exact⟨t,el,by rw [e];exact a,c,d⟩
theorem Has.of_get{h h':Hp}{b:Nat}{o:Ob}(e:h'.get b=h.get b)(k:Has h b o):Has h' b o:=by
 cases o with
 |row l md=>exact Row.of_get e k
 |map es c=>exact e.trans k
 |loop x=>exact e.trans k
 |dfr=>exact e.trans k
theorem Has.lt{h:Hp}(ok:h.t.Sized h.n){b:Nat}{o:Ob}(k:Has h b o):b<h.n:=by
 cases o with
 |row l md=>exact Row.lt ok k
 |map es c=>exact gm ok k
 |loop x=>exact gm ok k
 |dfr=>exact gm ok k
theorem Has.some{h:Hp}{b:Nat}{o:Ob}(k:Has h b o):(h.get b).isSome=true:=by
 cases o with
 |row l md=>obtain⟨t,el,a,_⟩:=k;rw [a];rfl
 |map es c=>rw [show h.get b=_ from k];rfl
 |loop x=>rw [show h.get b=_ from k];rfl
 |dfr=>rw [show h.get b=_ from k];rfl

structure Mo(M:Nat->Prop)(h h':Hp):Prop where
 ok0:h.t.Sized h.n
 ok:h'.t.Sized h'.n
 n:h.n<=h'.n
 get: ∀b,b<h.n-> ¬M b->h'.get b=h.get b
 lo: ∀x,x<=h.n->x<=h.lo->(∀b,M b->x<=b)->x<=h'.lo
abbrev NoM:Nat->Prop:=fun _=>False
theorem Gr.fr{M:Nat->Prop}{h h':Hp}(g:Gr h h'):Mo M h h':=⟨g.ok0,g.ok,g.n,fun b hb _=>g.get b hb,fun x h1 h2 _=>g.lo x h1 h2⟩
theorem Mo.gr{h h':Hp}(g:Mo NoM h h'):Gr h h':=⟨g.ok0,g.ok,g.n,fun b hb=>g.get b hb (fun x=>x),fun x h1 h2=>g.lo x h1 h2 (fun _ h=>h.elim)⟩
theorem Mo.refl{M:Nat->Prop}{h:Hp}(ok:h.t.Sized h.n):Mo M h h:=(Gr.refl ok).fr
theorem Mo.trans{M M':Nat->Prop}{a b c:Hp}(x:Mo M a b)(y:Mo M' b c)(hm: ∀i,M' i->M i\/a.n<=i):Mo M a c:=
 ⟨x.ok0,y.ok,yu x.n y.n,fun i hi hn=>(y.get i (Nat.lt_of_lt_of_le hi x.n) (fun hm'=>(hm i hm').elim hn (fun h=>by omega))).trans (x.get i hi hn),
  fun i h1 h2 h3=>y.lo i (yu h1 x.n) (x.lo i h1 h2 h3) fun j hj=>(hm j hj).elim (h3 j) (fun h=>by omega)⟩
theorem Mo.mono{M M':Nat->Prop}{a b:Hp}(x:Mo M a b)(hm: ∀i,M i->M' i):Mo M' a b:=
 ⟨x.ok0,x.ok,x.n,fun i hi hn=>x.get i hi (fun h=>hn (hm i h)),fun i h1 h2 h3=>x.lo i h1 h2 fun j hj=>h3 j (hm j hj)⟩
theorem Mo.new{M:Nat->Prop}{a h:Hp}(g:Mo M a h)(x:Blk):Mo M a (h.new x):=g.trans (M':=NoM) (Gr.new g.ok x).fr (fun _ h=>h.elim)
theorem Mo.put{M:Nat->Prop}{a h:Hp}(g:Mo M a h){b:Nat}(hb:a.n<=b\/M b)(x:Blk):Mo M a (h.put b x):=by
 refine g.trans (M':=fun i=>i=b) ⟨g.ok,put_ok g.ok b x,ya _,fun i hi hn=>bM (fun e=>hn e.symm),fun i h1 h2 h3=>?_⟩ (fun i h=>by subst h;exact hb.symm)
 show i<=dz b h.lo
 have:=h3 b rfl
 unfold dz
 cases xY b h.lo<;>simp<;>omega
theorem Mo.has{M:Nat->Prop}{a h:Hp}(g:Mo M a h){b:Nat}{o:Ob}(k:Has a b o)(hm: ¬M b):Has h b o:=Has.of_get (g.get b (k.lt g.ok0) hm) k

abbrev GL:=Value×Nat×List Value
def dR:GL->Option Nat
 |(.slice (some a) _ _,_,_)=>some a.block
 |_=>none
def eQ(h:Hp)(p:GL):Prop:=(p.1=.slice none 0 0/\p.2.2=[])\/ ∃b n,p.1=.slice (some ⟨b,0,some p.2.1⟩) n n/\n*p.2.1=p.2.2.length/\Row h b p.2.2 1
def keys(L:List (Nat×Ob))(G:List GL):List Nat:=L.map Prod.fst++G.filterMap dR

structure St(M:Nat->Prop)(h0 h:Hp)(L:List (Nat×Ob))(G:List GL):Prop where
 fr:Mo M h0 h
 own: ∀p∈L,(h0.n<=p.1\/M p.1)/\Has h p.1 p.2
 gown: ∀p∈G,eQ h p/\ ∀b,dR p=some b->h0.n<=b\/M b
 apart:(keys L G).Nodup

section
variable{M:Nat->Prop}{h0 h:Hp}{L:List (Nat×Ob)}{G:List GL}
theorem eQ.of_get{h':Hp}{p:GL}(k:eQ h p)(e: ∀b,dR p=some b->h'.get b=h.get b):eQ h' p:=by
 rcases k with k|⟨b,n,k1,k2,k3⟩
 . exact .inl k
 . refine .inr ⟨b,n,k1,k2,Row.of_get (e b ?_) k3⟩
   obtain⟨v,k,vs⟩:=p
   simp only []at k1
   subst k1
   rfl
theorem eQ.lt(ok:h.t.Sized h.n){p:GL}(k:eQ h p){b:Nat}(hb:dR p=some b):b<h.n:=by
 rcases k with k|⟨b',n,k1,k2,k3⟩
 . obtain⟨v,k',vs⟩:=p
   obtain⟨k1,k2⟩:=k
   simp only []at k1
   subst k1
   cases hb
 . obtain⟨v,k',vs⟩:=p
   simp only []at k1
   subst k1
   cases hb
   exact Row.lt ok k3
theorem ie{p:Nat×Ob}(hp:p∈L):p.1∈keys L G:=yw _ (yG hp)
theorem fi{p:GL}{b:Nat}(hp:p∈G)(hb:dR p=some b):b∈keys L G:=yl _ (List.mem_filterMap.2 ⟨p,hp,hb⟩)
theorem St.key_lt(S:St M h0 h L G){b:Nat}(hb:b∈keys L G):b<h.n:=by
 unfold keys at hb
 rcases List.mem_append.1 hb with hb|hb
 . obtain⟨p,hp,rfl⟩:=List.mem_map.1 hb
   exact(S.own p hp).2.lt S.fr.ok
 . obtain⟨p,hp,hk⟩:=List.mem_filterMap.1 hb
   exact(S.gown p hp).1.lt S.fr.ok hk
theorem St.init(ok:h.t.Sized h.n):St M h h [] []:=⟨Mo.refl ok,fun _ h=>(by cases h),fun _ h=>(by cases h),.nil⟩
theorem St.ok(S:St M h0 h L G):h.t.Sized h.n:=S.fr.ok
theorem St.gr(S:St NoM h0 h L G):Gr h0 h:=S.fr.gr
theorem St.push(S:St M h0 h L G){b:Nat}{o:Ob}(hb:h0.n<=b\/M b)(ho:Has h b o)(hn:b∉keys L G):St M h0 h ((b,o)::L) G:=
 ⟨S.fr,fun p hp=>by
  rcases List.mem_cons.1 hp with rfl|hp
  . exact⟨hb,ho⟩
  . exact S.own p hp,S.gown,List.nodup_cons.2 ⟨hn,S.apart⟩⟩
theorem St.step(S:St M h0 h L G){M':Nat->Prop}{h':Hp}(f:Mo M' h h')(hm: ∀b,M' b->M b\/h0.n<=b)(hk: ∀b∈keys L G,¬M' b):St M h0 h' L G:=
 ⟨S.fr.trans f hm,fun p hp=>⟨(S.own p hp).1,f.has (S.own p hp).2 (hk _ (ie hp))⟩,
  fun p hp=>⟨(S.gown p hp).1.of_get fun b hb=>f.get b ((S.gown p hp).1.lt S.ok hb) (hk b (fi hp hb)),(S.gown p hp).2⟩,S.apart⟩
theorem St.call(S:St M h0 h L G){h':Hp}(g:Gr h h'):St M h0 h' L G:=S.step (M':=NoM) g.fr (fun _ h=>h.elim) (fun _ _ h=>h)
theorem St.new(S:St M h0 h L G){x:Blk}{o:Ob}(ho:Has (h.new x) h.n o):St M h0 (h.new x) ((h.n,o)::L) G:=
 (S.call (Gr.new S.ok x)).push (.inl S.fr.n) ho (fun hk=>by have:=S.key_lt hk;omega)
theorem St.nilG(S:St M h0 h L G){k:Nat}:St M h0 h L ((.slice none 0 0,k,[])::G):=
 ⟨S.fr,S.own,fun p hp=>by
  rcases List.mem_cons.1 hp with rfl|hp
  . exact⟨.inl ⟨rfl,rfl⟩,fun b hb=>by cases hb⟩
  . exact S.gown p hp,S.apart⟩
theorem jK{α:Type}{l:List α}{i:Nat}{x y:α}(h:y∈l.set i x):y=x\/ ∃j,j≠i/\l[j]? =some y:=by
 rw [List.mem_iff_getElem?]at h
 obtain⟨j,hj⟩:=h
 rw [yz]at hj
 split at hj
 . split at hj
   . cases hj;exact .inl rfl
   . cases hj
 . exact .inr ⟨j,by omega,hj⟩
theorem mJ{α:Type}{l:List α}(h:l.Nodup){i j:Nat}{x:α}(hi:l[i]? =some x)(hj:l[j]? =some x):i=j:=by
 have h1:=(List.getElem?_eq_some_iff.1 hi)
 have h2:=(List.getElem?_eq_some_iff.1 hj)
 obtain⟨a,a'⟩:=h1
 obtain⟨b,b'⟩:=h2
 rcases Nat.lt_trichotomy i j with hij|hij|hij
 . exact absurd (a'.trans b'.symm) (List.pairwise_iff_getElem.1 h i j a b hij)
 . exact hij
 . exact absurd (b'.trans a'.symm) (List.pairwise_iff_getElem.1 h j i b a hij)
theorem lS{L:List (Nat×Ob)}{G:List GL}{i:Nat}{p:Nat×Ob}(hi:L[i]? =some p):(keys L G)[i]? =some p.1:=by
 unfold keys
 have:=(List.getElem?_eq_some_iff.1 hi).1
 rw [yd (by simpa using this),yc,hi];rfl
theorem St.put(S:St M h0 h L G){i b:Nat}{o o':Ob}(hi:L[i]? =some (b,o)){x:Blk}(ho:Has (h.put b x) b o'):St M h0 (h.put b x) (L.set i (b,o')) G:=by
 have hb:=S.own _ (xW hi)
 have hkey:(keys L G)[i]? =some b:=lS hi
 refine⟨S.fr.put hb.1 x,fun p hp=>?_,fun p hp=>⟨(S.gown p hp).1.of_get fun c hc=>?_,(S.gown p hp).2⟩,?_⟩
 . rcases jK hp with rfl|⟨j,hj,hp⟩
   . exact⟨hb.1,ho⟩
   . have h1:=S.own p (xW hp)
     refine⟨h1.1,h1.2.of_get (bM fun e=>hj ?_)⟩
     have h2:(keys L G)[j]? =some b:=by rw [lS hp];rw [e]
     exact mJ S.apart h2 hkey
 . refine bM fun e=>?_
   subst e
   have h1:=S.apart
   unfold keys at h1
   rw [List.nodup_append]at h1
   exact h1.2.2 b (List.mem_map.2 ⟨_,xW hi,rfl⟩) b (List.mem_filterMap.2 ⟨p,hp,hc⟩) rfl
 . have:keys (L.set i (b,o')) G=keys L G:=by
    unfold keys
    congr 1
    rw [List.map_set]
    refine List.ext_getElem? fun j=>?_
    rw [yz]
    split
    . rename_i e;subst e
      have:=(List.getElem?_eq_some_iff.1 hi).1
      rw [if_pos (by simpa using this),yc,hi];rfl
    . rfl
   rw [this];exact S.apart
theorem St.row(S:St M h0 h L G){b:Nat}{l:List Value}{md:Nat}(hi:(b,Ob.row l md)∈L):Row h b l md:=(S.own _ hi).2
theorem St.ld(S:St M h0 h L G){b o:Nat}{l:List Value}{md:Nat}{v:Value}(hi:(b,Ob.row l md)∈L)(hv:l[o]? =some v):h.load b o 1=some [v]:=(S.row hi).load1 hv
theorem St.lds(S:St M h0 h L G){b o n:Nat}{l:List Value}{md:Nat}(hi:(b,Ob.row l md)∈L)(hn:o+n<=l.length):h.load b o n=some ((l.drop o).take n):=(S.row hi).load hn
theorem m0{α:Type}{a:α}{l:List α}:a∈a::l:=yh
theorem m1{α:Type}{a b:α}{l:List α}:a∈b::a::l:=.tail _ m0
theorem m2{α:Type}{a b c:α}{l:List α}:a∈b::c::a::l:=.tail _ m1
theorem m3{α:Type}{a b c d:α}{l:List α}:a∈b::c::d::a::l:=.tail _ m2
theorem m4{α:Type}{a b c d e:α}{l:List α}:a∈b::c::d::e::a::l:=.tail _ m3
theorem m5{α:Type}{a b c d e f:α}{l:List α}:a∈b::c::d::e::f::a::l:=.tail _ m4
theorem m6{α:Type}{a b c d e f g:α}{l:List α}:a∈b::c::d::e::f::g::a::l:=.tail _ m5
theorem m7{α:Type}{a b c d e f g i:α}{l:List α}:a∈b::c::d::e::f::g::i::a::l:=.tail _ m6
theorem St.old(S:St M h0 h L G){b o n:Nat}{l:List Value}(e:h0.load b o n=some l)(hm: ¬M b):h.load b o n=some l:=by
 have:=S.fr.get b (bg S.fr.ok0 e) hm
 unfold Hp.load at e⊢
 rw [this];exact e
end
end Go.Ab

namespace Go.Ab

def mF(h:Hp)(X:Hp->Option (cR×Hp))(F:Nat->Value)(o:Ob):Prop:=
 ∃blk,(∀x,X {h with lo:=x}=some (.val (F h.n),({h with lo:=x}:Hp).new blk))/\(h.t.Sized h.n->Has (h.new blk) h.n o)
section
variable{M:Nat->Prop}{h0 h:Hp}{L:List (Nat×Ob)}{G:List GL}
section
variable{E:Env}{cx:Cx}{o:Oper}{l:Loc}{K:Ex->Loc->Hp->Prop}{X:Hp->Option (cR×Hp)}{F:Nat->Value}{ob:Ob}
theorem ae(N:mF h X F ob)(S:St M h0 h L G)(hk: ∀h' b,St M h0 h' ((b,ob)::L) G->h0.n<=b->K .normal (l.put o.dst (F b)) h'):eh E cx o l K (X h):=by
 obtain⟨blk,h1,h2⟩:=N
 have e:X h=_:=h1 h.lo
 rw [e]
 exact hk _ _ (S.new (h2 S.ok)) S.fr.n
theorem dt{cx:Cx}{Q:dW}{a:List Oper}{q:Nat}{ps:List (Nat×Nat)}{os:List Oper}{i:Nat}{k:List Fr}{tr:List (Nat×Tch)}(N:mF h X F ob)(S:St M h0 h L G)
 (hk: ∀h' b,St M h0 h' ((b,ob)::L) G->h0.n<=b->b=h.n->Run E (lim E) cx Q (.opsD a q ps os (i+1) tr::k) .normal (l.put o.dst (F b)) h'):DQ E cx Q a q ps o os i k l h tr (X {h with lo:=h.n}):=by
 obtain⟨blk,h1,h2⟩:=N
 rw [h1]
 exact⟨xX (ya _),hk _ _ (S.new (h2 S.ok)) S.fr.n rfl⟩
end
theorem bE{v:Value}{t:TypeId}(hv: ∀x,v≠ .chan x):mF h (fun h=>boxR h t v) ptrTo (.row (ag v) 1):=by
 refine⟨.cells (Tr.ofList (ag v)) (ag v).length t 1,fun x=>?_,fun ok=>lU ok _ _ _⟩
 cases v<;>first|rfl|exact absurd rfl (hv _)
theorem aw{z:List Value}{t:TypeId}:mF h (fun h=>allocR h t (some z)) ptrTo (.row z 1):=
 ⟨.cells (Tr.ofList z) z.length t 1,fun _=>rfl,fun ok=>lU ok _ _ _⟩
noncomputable def mapR(h:Hp):Option (cR×Hp):=some (.val (.map (some h.n)),h.new (.map [] 0))
theorem wX{E:Env}{ρ:Operand->Value}{h:Hp}{t:TypeId}:aop E ρ h (.makeMap t none)=mapR h:=rfl
theorem rO:mF h mapR (fun b=>.map (some b)) (.map [] 0):=⟨.map [] 0,fun _=>rfl,fun ok=>by show(h.new _).get h.n=_;rw [h.get_new _ ok,if_pos rfl]⟩
theorem pZ(zs:List Value): ∀n,(aU zs n).length=n*zs.length
 |0=>by simp [aU]
 |n+1=>by simp only [aU,yi,pZ zs n];rw [Nat.succ_mul];omega
theorem row_blank{h:Hp}(ok:h.t.Sized h.n)(z:Value)(n:Nat)(e:TypeId):Row (h.new (.cells (Tr.blank z n n) n e 1)) h.n (yk n z) 1:=by
 refine⟨Tr.blank z n n,e,?_,?_,fun i=>?_⟩
 . rw [h.get_new _ ok,if_pos rfl,yr]
 . rw [yr];exact Tr.sized_blank _ _ _ (ya _)
 . rw [Tr.get_blank _ _ _ (ya _),yC]
def dN(E:Env)(e:TypeId)(by_ k:Nat)(zs:List Value):Prop:=(∃i,E.ty e=some i/\i.bytes=by_/\i.size=k)/\E.zero e=some zs/\zs.length=k
theorem kN{E:Env}{t e:TypeId}{by_ k:Nat}{zs:List Value}{kd kd':IntKind}{n:Int}(hu:E.und t=some (.slice e))(he:dN E e by_ k zs)(h0:0<=n)(hn:n.toNat*(by_+1)<=70368744177664):
 mF h (fun h=>cv (io E h t (.int kd n) (.int kd' n))) (fun b=>.slice (some ⟨b,0,none⟩) n.toNat n.toNat) (.row (aU zs n.toNat) 1):=by
 obtain⟨⟨i,hi,rfl,rfl⟩,hz,hl⟩:=he
 obtain⟨m,rfl⟩:=Int.eq_ofNat_of_zero_le h0
 have hle:xY (m*(i.bytes+1)) 70368744177664=true:=xX hn
 have hb:yf zs.length i.size=true:=by rw [hl];exact yx _
 have hn1:natV (.int kd (m:Int))=some m:=rfl
 have hn2:natV (.int kd' (m:Int))=some m:=rfl
 have hc:(xY m m&&xY (m*(i.bytes+1)) 70368744177664)=true:=by rw [hle,xX (ya _)];rfl
 by_cases h1: ∃z,zs=[z]
 . obtain⟨z,rfl⟩:=h1
   refine⟨.cells (Tr.blank z m m) m e 1,fun x=>?_,fun ok=>?_⟩
   . simp only [io,hu,hi,hz,hn1,hn2,hc,hb,cond_true,cv]
     rfl
   . have:aU [z] (m:Int).toNat=yk m z:=by
      have: ∀n,aU [z] n=yk n z:=by intro n;induction n with
       |zero=>rfl
       |succ n ih=>simp [aU,ih,List.replicate_succ]
      exact this m
     rw [this]
     exact row_blank ok z m e
 . refine⟨.cells (Tr.ofList (aU zs m)) (m*i.size) e 1,fun x=>?_,fun ok=>?_⟩
   . simp only [io,hu,hi,hz,hn1,hn2,hc,hb,cond_true]
     cases zs with
     |nil=>rfl
     | cons a l=>
       cases l with
       |nil=>exact absurd ⟨a,rfl⟩ h1
       |cons b l=>rfl
   . have:=lU ok (aU zs m) e 1
     rw [pZ,hl]at this
     show Row _ _ (aU zs m) 1
     obtain⟨t,el,a,b,c⟩:=this
     exact⟨Tr.ofList (aU zs m),e,by rw [h.get_new _ ok,if_pos rfl,pZ,hl],Tr.sized_ofList _,Tr.get_ofList _⟩

theorem St.store(S:St M h0 h L G){E:Env}{t:TypeId}{i b off n md:Nat}{s:Option Nat}{l:List Value}{v:Value}(hi:L[i]? =some (b,.row l md))(hs:E.sz t=some n)(hv: ∀x,v≠ .chan x)(hl:(ag v).length=n)
 (hf:(ag v).all iK=true) (ho:off+n<=l.length) (hmd:md≠0): ∃h',gc E h t (.pointer (some ⟨b,off,s⟩)) v=some h'/\St M h0 h' (L.set i (b,.row (lay l off (ag v)) md)) G/\Mo (· =b) h h':=by
 subst hl
 obtain⟨x,h1,h2⟩:=(S.row (xW hi)).store S.ok hmd (vs:=ag v) ho hf
 refine⟨h.put b x,?_,S.put hi h2,(Mo.refl (M:=(· =b)) S.ok).put (.inr rfl) x⟩
 have:gc E h t (.pointer (some ⟨b,off,s⟩)) v=bif yf (ag v).length (ag v).length then h.store b off (ag v)else none:=by
  simp only [gc,hs]
 rw [this,yx]
 exact h1
section
variable{E:Env}{cx:Cx}{o:Oper}{l:Loc}{K:Ex->Loc->Hp->Prop}
theorem az{x:Option Hp}{P:Hp->Prop}(hx: ∃h',x=some h'/\P h')(hk: ∀h',P h'->K .normal (l.put o.dst (.tuple #[])) h'):eh E cx o l K (eH x):=by
 obtain⟨h',rfl,hp⟩:=hx
 exact hk h' hp
theorem eK{x:Option (Hp×Value)}{P:Hp->Value->Prop}(hx: ∃h' v,x=some (h',v)/\P h' v)(hk: ∀h' v,P h' v->K .normal (l.put o.dst v) h'):eh E cx o l K (cv x):=by
 obtain⟨h',v,rfl,hp⟩:=hx
 exact hk h' v hp
theorem c5{cx:Cx}{Q:dW}{a:List Oper}{q:Nat}{ps:List (Nat×Nat)}{os:List Oper}{i:Nat}{k:List Fr}{tf:Hp->List (Nat×Tch)}{x:Option Hp}{P:Hp->Prop}(hx: ∃h',x=some h'/\P h')
 (hk: ∀h',P h'->Run E (lim E) cx Q (.opsD a q ps os (i+1) (tf h')::k) .normal (l.put o.dst (.tuple #[])) h'):DN E cx Q a q ps o os i k l tf (eH x):=by
 obtain⟨h',rfl,hp⟩:=hx
 exact hk h' hp
theorem dn_v{cx:Cx}{Q:dW}{a:List Oper}{q:Nat}{ps:List (Nat×Nat)}{os:List Oper}{i:Nat}{k:List Fr}{tf:Hp->List (Nat×Tch)}{x:Option (Hp×Value)}{P:Hp->Value->Prop}(hx: ∃h' v,x=some (h',v)/\P h' v)
 (hk: ∀h' v,P h' v->Run E (lim E) cx Q (.opsD a q ps os (i+1) (tf h')::k) .normal (l.put o.dst v) h'):DN E cx Q a q ps o os i k l tf (cv x):=by
 obtain⟨h',v,rfl,hp⟩:=hx
 exact hk h' v hp
end

theorem mE{L:List (Nat×Ob)}{G:List GL}{j:Nat}{p p':GL}(hn:(keys L G).Nodup)(hj:G[j]? =some p){b:Nat}(hb:dR p'=some b)(hnew:b∉keys L G):(keys L (G.set j p')).Nodup:=by
 obtain⟨hlt,hp⟩:=List.getElem?_eq_some_iff.1 hj
 have hG:G=G.take j++p::G.drop (j+1):=by rw [<-hp,List.getElem_cons_drop hlt,List.take_append_drop]
 have hS:G.set j p'=G.take j++p'::G.drop (j+1):=List.set_eq_take_append_cons_drop.trans (if_pos hlt)
 unfold keys at*
 rw [hS,yt,yo hb,<-yj]
 refine List.perm_middle.nodup_iff.2 (List.nodup_cons.2 ⟨fun hk=>hnew ?_,?_⟩)
 . rw [hG,yt]
   rcases List.mem_append.1 hk with hk|hk
   . rcases List.mem_append.1 hk with hk|hk
     . exact yw _ hk
     . exact yl _ (yw _ hk)
   . refine yl _ (yl _ ?_)
     rw [yy]
     split
     . exact hk
     . exact yv _ hk
 . rw [hG,yt,<-yj]at hn
   refine hn.sublist (List.Sublist.append (List.Sublist.refl _) ?_)
   rw [yy]
   split
   . exact List.Sublist.refl _
   . exact List.sublist_cons_self _ _
theorem St.grow (S :St M h0 h L G) {E:Env} {t tx e:TypeId} {by_ k j m:Nat} {zs vs new:List Value} {v x:Value} (hj:G[j]? =some (v,k,vs)) (hu:E.und t=some (.slice e)) (he:dN E e by_ k zs) (hb:0<by_)
 (hx:ax E tx=some false) (hsrc:aO h k x=some (m,new)) (hm:m*k=new.length) (hk:0<k) (hf:new.all iK=true) (hsz:(vs.length+new.length)*(by_+1)<=70368744177664) {ts:List TypeId}:
 ∃h' v',c9 E h (t::tx::ts) v x=some (h',v')/\St M h0 h' L (G.set j (v',k,vs++new)):=by
 obtain⟨⟨i,hi,rfl,rfl⟩,hz,hl⟩:=he
 have hlt:=(List.getElem?_eq_some_iff.1 hj).1
 obtain⟨hg,hown⟩:=S.gown _ (xW hj)
 have main : ∀ a len,v=.slice a len len->len*i.size=vs.length->(a=none/\len=0\/ ∃b,a=some ⟨b,0,some i.size⟩/\Row h b vs 1)->
  ∃h' v',ey E h e i a len len m new=some (h',v')/\St M h0 h' L (G.set j (v',i.size,vs++new)):=by
  intro a len hv hlen ha
  by_cases h1:m=0
  . subst h1
    have:new=[]:=by
     cases new with
     |nil=>rfl
     |cons a l=>simp at hm
    subst this
    refine⟨h,v,?_,?_⟩
    . unfold ey
      rw [xX (by omega:len+0<=len)]
      simp only [cond_true]
      rw [hv]
      cases a<;>rfl
    . rw [List.append_nil]
      have:G.set j (v,i.size,vs)=G:=by
       refine List.ext_getElem? fun n=>?_
       rw [yz]
       split
       . rename_i e;subst e;first|rw [if_pos hlt,hj]|exact hj.symm
       . rfl
      rw [this];exact S
  . have hcap : xY (len+m) len=false:=by
     cases hx:xY (len+m) len with
     |false=>rfl
     |true=>exact absurd (Nat.le_of_ble_eq_true hx) (by omega)
    have hmul:len+m<=vs.length+new.length:=by
     rw [<-hlen,<-hm]
     have h1:=yD len hk
     have h2:=yD m hk
     omega
    have hguard:(xY ((len+m)*(i.bytes+1)) 70368744177664&&yB 0 i.bytes)=true:=by
     rw [xX (yu (Nat.mul_le_mul_right _ hmul) hsz)]
     simp only [Bool.true_and]
     rw [yF];exact hb
    have hzl:yf zs.length i.size=true:=by rw [hl];exact yx _
    have hstart:ey E h e i a len len m new=lz h e i.size a len m new:=by
     unfold ey
     rw [hcap]
     simp only [cond_false]
     rw [hguard,hz]
     simp only [cond_true,hzl]
    rw [hstart]
    rcases ha with⟨rfl,rfl⟩|⟨b,rfl,hrow⟩
    . have hvs:vs=[]:=by
       cases vs with
       |nil=>rfl
       |cons a l=>simp at hlen
      subst hvs
      refine⟨h.new (.cells (Tr.ofList new) new.length e 1),.slice (some ⟨h.n,0,some i.size⟩) m m,rfl,?_⟩
      have S':=S.call (Gr.new S.ok (.cells (Tr.ofList new) new.length e 1))
      have hnk:h.n∉keys L G:=fun hk=>by have:=S.key_lt hk;omega
      refine⟨S'.fr,S'.own,fun p hp=>?_,mE S.apart hj (b:=h.n) rfl hnk⟩
      rcases jK hp with rfl|⟨j',_,hp⟩
      . exact⟨.inr ⟨h.n,m,rfl,hm,lU S.ok new e 1⟩,fun b hb=>by cases hb;exact .inl S.fr.n⟩
      . exact S'.gown p (xW hp)
    . obtain ⟨tr,el,hget,hsz',htr⟩:=hrow
      have hgt:jv tr vs.length 0 (len*i.size) new=some (tr.pushAll vs.length new,vs.length+new.length):=by
       unfold jv
       rw [hlen,yx vs.length]
       rfl
      refine⟨(h.put b .dead).new (.cells (tr.pushAll vs.length new) (vs.length+new.length) e 1),.slice (some ⟨h.n,0,some i.size⟩) (len+m) (len+m),?_,?_⟩
      . unfold lz
        simp only [hget,hgt,hf,yx]
        rfl
      . have hkey:dR (v,i.size,vs)=some b:=by rw [hv];rfl
        have hbn:=gm S.ok hget
        have fr1:=(S.fr.put (hown b hkey) .dead)
        have hne: ∀c∈L.map Prod.fst,c≠b:=fun c hc e=>by
         have h1:=S.apart
         unfold keys at h1
         rw [List.nodup_append]at h1
         exact h1.2.2 c hc b (List.mem_filterMap.2 ⟨_,xW hj,hkey⟩) e
        have hget2: ∀c,c<h.n->c≠b->((h.put b .dead).new (.cells (tr.pushAll vs.length new) (vs.length+new.length) e 1)).get c=h.get c:=fun c hc hcb=>by
         rw [Hp.get_new _ _ fr1.ok,if_neg (by show c≠h.n;omega)]
         exact bM (Ne.symm hcb)
        have hnk:h.n∉keys L G:=fun hk=>by have:=S.key_lt hk;omega
        refine⟨fr1.new _,fun p hp=>?_,fun p hp=>?_,mE S.apart hj (b:=h.n) rfl hnk⟩
        . have h1:=S.own p hp
          exact⟨h1.1,h1.2.of_get (hget2 _ (h1.2.lt S.ok) (hne _ (yG hp)))⟩
        . rcases jK hp with rfl|⟨j',hj',hp⟩
          . refine⟨.inr ⟨h.n,len+m,rfl,?_,?_⟩,fun b hb=>by cases hb;exact .inl S.fr.n⟩
            . show(len+m)*i.size=(vs++new).length
              rw [Nat.add_mul,hlen,hm,yi]
            . refine⟨tr.pushAll vs.length new,e,?_,?_,fun n=>?_⟩
              . rw [Hp.get_new _ _ fr1.ok]
                rw [if_pos (show h.n=(h.put b .dead).n from rfl),yi]
              . rw [yi];exact Tr.sized_pushAll _ hsz'
              . rw [Tr.get_pushAll _ _ _ hsz',List.getElem?_append]
                split
                . exact htr n
                . rfl
          . have h1:=S.gown p (xW hp)
            refine⟨h1.1.of_get fun c hc=>hget2 c (h1.1.lt S.ok hc) fun e=>hj' ?_,h1.2⟩
            subst e
            -- two lists with one block
            have h2:=S.apart
            unfold keys at h2
            have h3:=(List.nodup_append.1 h2).2.1
            have key: ∀(G:List GL) (a c:Nat) (p q:GL),(G.filterMap dR).Nodup->G[a]? =some p->G[c]? =some q-> ∀x,dR p=some x->dR q=some x->a=c:=by
             intro G
             induction G with
             |nil=>intro a c p q _ ha;simp at ha
             | cons g G ih=>
               intro a c p q hn ha hc x hp hq
               have hn':(G.filterMap dR).Nodup:=by
                rw [yy]at hn
                split at hn
                . exact hn
                . exact(List.nodup_cons.1 hn).2
               cases a with
               | zero=>
                 cases c with
                 |zero=>rfl
                 | succ c=>
                   simp at ha hc
                   subst ha
                   rw [yo hp]at hn
                   exact absurd (List.mem_filterMap.2 ⟨q,xW hc,hq⟩) (List.nodup_cons.1 hn).1
               | succ a=>
                 cases c with
                 | zero=>
                   simp at ha hc
                   subst hc
                   rw [yo hq]at hn
                   exact absurd (List.mem_filterMap.2 ⟨p,xW ha,hp⟩) (List.nodup_cons.1 hn).1
                 | succ c=>
                   simp at ha hc
                   rw [ih a c p q hn' ha hc x hp hq]
            exact key G j' j p _ h3 hp hj c hc hkey
 unfold c9
 simp only [hx]
 unfold jf
 simp only [hu,hi]
 rcases hg with⟨k1,k2⟩|⟨b,n,k1,k2,k3⟩
 . simp only []at k1 k2
   subst k1 k2
   simp only [hsrc]
   exact main none 0 rfl (by simp) (.inl ⟨rfl,rfl⟩)
 . simp only []at k1 k2 k3
   subst k1
   simp only [hsrc]
   exact main _ n rfl k2 (.inr ⟨b,rfl,k3⟩)
end
end Go.Ab

namespace Go.Ab

theorem aZ{E:Env}{cx:Cx}{Q:dW}{k:List Fr}{n:Nat}{d:List Deferred}{rc:Option (Value×Bool)}{b:Code}{α:Type}(I:α->(Nat->Value)->Hp->Prop)(m:α->Nat)
 (hs: ∀a,(∀a' ρ' h',m a'<m a->I a' ρ' h'->Run E (lim E) cx Q (.code (.loop b)::k) .normal (LL n ρ' d rc) h')-> ∀ρ h,I a ρ h->Run E (lim E) cx Q (.code b:: .code (.loop b)::k) .normal (LL n ρ d rc) h):
 ∀a ρ h,I a ρ h->Run E (lim E) cx Q (.code (.loop b)::k) .normal (LL n ρ d rc) h:=by
 have key: ∀j a,m a<j-> ∀ρ h,I a ρ h->Run E (lim E) cx Q (.code (.loop b)::k) .normal (LL n ρ d rc) h:=by
  intro j
  induction j with
  |zero=>intro a ha;omega
  | succ j ih=>
    intro a ha ρ h hi
    rw [bS]
    exact hs a (fun a' ρ' h' hlt hi'=>ih a' (by omega) ρ' h' hi') ρ h hi
 intro a ρ h hi
 exact key (m a+1) a (by omega) ρ h hi

def nV(b:Nat):Deferred:={target:=.collected b,args:=#[]}
section
variable(E:Env)(cx:Cx)(Q:dW)(k:List Fr)
def RangeGo(l:Loc)(h:Hp):Option Code->Prop
 |none=>Run E (lim E) cx Q k .normal l h
 |some (.exit id)=>Run E (lim E) cx Q k (.exit id) l h
 |some .ret=>Run E (lim E) cx Q k .ret l h
 |_=>False
def RangeQ(l:Loc)(lb:Nat):Out->Option (Value×Bool)->Hp->Prop
 | .pan v,_,h2=>Run E (lim E) cx Q k (.pan v) l h2
 | .ret _,_,h2=> ∃x,h2.get lb=some (.loop x)/\x.st≠1/\RangeGo E cx Q k l (h2.put lb .dead) x.pending
end
section
variable{E:Env}{cx:Cx}{Q:dW}{k:List Fr}{n:Nat}{ρ:Nat->Value}{d:List Deferred}{rc:Option (Value×Bool)}{M:Nat->Prop}{h0 h:Hp}{L:List (Nat×Ob)}{G:List GL}
theorem xi {f:Operand} {params:Array Tmp} {assign body:Code} {g:FuncId} {a b:Array Value} {h1:Hp} {db:Nat} {dfs:List Deferred} (hf:(LL n ρ d rc).ev f=.func (.func g) a b) (hn:cx.nr=n)
 (hd :(match cx.round with
   |none=>some (h.new .dfr,h.n,({target:=.collected h.n,args:=#[]}:Deferred)::d)
   | some r=>match h.get r with
     |some (.loop x)=>some (h,x.defers,d)
     |_=>none)=some (h1,db,dfs))
 (hk:eN E g (a.toList++[.func (.yield h1.n) #[] #[]]++b.toList) none (h1.new (.loop {fn:=cx.fn,regs:=tab n ρ,nr:=n,params,assign,body,st:=0,pending:=none,defers:=db})) (RangeQ E cx Q k (LL n ρ dfs rc) h1.n)):
 Run E (lim E) cx Q (.code (.rangeFunc f params assign body)::k) .normal (LL n ρ d rc) h:=by
 obtain⟨o,rc',h2,hc,hq⟩:=hk
 simp only [Run]
 have e:aD E (lim E) cx (.rangeFunc f params assign body) (LL n ρ d rc) h=gk (lim E) cx ((LL n ρ d rc).ev f) params assign body (LL n ρ d rc) h:=rfl
 rw [e,hf]
 have e2:gk (lim E) cx (.func (.func g) a b) params assign body (LL n ρ d rc) h=(match(some (h1,db,dfs):Option (Hp×Nat×List Deferred))with
  |none=>none
  | some (h1,db,dfs)=>
    match(lim E).call g (a.toList++[.func (.yield h1.n) #[] #[]]++b.toList) none
     (h1.new (.loop {fn:=cx.fn,regs:=tab n ρ,nr:=cx.nr,params,assign,body,st:=0,pending:=none,defers:=db}))with
    |none=>none
    |some (.pan v,_,h2)=>some (.pan v,LL n ρ dfs rc,h2)
    | some (.ret _,_,h2)=>match h2.get h1.n with
      | some (.loop x)=>match x.st with
        |1=>none
        | _=>match x.pending with
          |none=>some (.normal,LL n ρ dfs rc,h2.put h1.n .dead)
          |some (.exit id)=>some (.exit id,LL n ρ dfs rc,h2.put h1.n .dead)
          |some .ret=>some (.ret,LL n ρ dfs rc,h2.put h1.n .dead)
          |_=>none
      |_=>none):=by rw [<-hd];rfl
 rw [e2]
 simp only [hn,hc]
 cases o with
 |pan v=>exact⟨_,_,_,rfl,hq⟩
 | ret v=>
   obtain⟨x,g1,g2,g3⟩:=hq
   simp only [g1]
   obtain⟨fn',regs',nr',params',assign',body',st,pending,defers⟩:=x
   simp only []at g2 g3
   have hfin: ∃e' l' h',(match pending with
    |none=>some (Ex.normal,LL n ρ dfs rc,h2.put h1.n .dead)
    |some (.exit id)=>some (.exit id,LL n ρ dfs rc,h2.put h1.n .dead)
    |some .ret=>some (.ret,LL n ρ dfs rc,h2.put h1.n .dead)
    |_=>none)=some (e',l',h')/\Run E (lim E) cx Q k e' l' h':=by
    cases pending with
    |none=>exact⟨_,_,_,rfl,g3⟩
    |some c=>cases c<;>first|exact g3.elim|exact⟨_,_,_,rfl,g3⟩
   match st,g2 with
   |0,_=>exact hfin
   |1,g2=>exact absurd rfl g2
   |_+2,_=>exact hfin
theorem g8(S:St M h0 h L G){f:Operand}{params:Array Tmp}{assign body:Code}{g:FuncId}{a b:Array Value}(hf:(LL n ρ d rc).ev f=.func (.func g) a b)(hn:cx.nr=n)(hr:cx.round=none)
 (hk: ∀h' db lb,St M h0 h' ((lb,.loop {fn:=cx.fn,regs:=tab n ρ,nr:=n,params,assign,body,st:=0,pending:=none,defers:=db})::(db,.dfr)::L) G->h.n<=db->h.n<=lb->Gr h h'->
   eN E g (a.toList++[.func (.yield lb) #[] #[]]++b.toList) none h' (RangeQ E cx Q k (LL n ρ (nV db::d) rc) lb)):
 Run E (lim E) cx Q (.code (.rangeFunc f params assign body)::k) .normal (LL n ρ d rc) h:=by
 have S1:St M h0 (h.new .dfr) ((h.n,.dfr)::L) G:=S.new (by show(h.new _).get h.n=_;rw [h.get_new _ S.ok,if_pos rfl])
 have S2:=S1.new (x:=.loop {fn:=cx.fn,regs:=tab n ρ,nr:=n,params,assign,body,st:=0,pending:=none,defers:=h.n}) (o:=.loop {fn:=cx.fn,regs:=tab n ρ,nr:=n,params,assign,body,st:=0,pending:=none,defers:=h.n})
  (by show(Hp.new _ _).get _=_;rw [Hp.get_new _ _ S1.ok,if_pos rfl])
 exact xi hf hn (by rw [hr];rfl) (hk _ _ _ S2 (ya _) (Nat.le_succ _) ((Gr.new S.ok _).trans (Gr.new S1.ok _)))
end

section
variable(E:Env)(cx:Cx)(lb:Nat)(Q:Out->Hp->Prop)
def nE:dW
 | .normal,_,h2=> ∃x,h2.get lb=some (.loop x)/\Q (.ret (.bool true)) (h2.put lb (.loop {x with st:=0,pending:=none}))
 | .exit id,_,h2=> ∃x,h2.get lb=some (.loop x)/\Q (.ret (.bool false)) (h2.put lb (.loop {x with st:=2,pending:=some (.exit id)}))
 | .ret,_,h2=> ∃x,h2.get lb=some (.loop x)/\Q (.ret (.bool false)) (h2.put lb (.loop {x with st:=2,pending:=some .ret}))
 | .pan v,l2,h2=>l2.dfs=[]/\Q (.pan v) h2
def sI(body:Code):dW
 | .normal,l,h1=> ∃x,h1.get lb=some (.loop x)/\x.st=0/\x.fn=cx.fn/\x.nr=cx.nr/\x.body=body/\Run E (lim E) cx (nE lb Q) [.code body] .normal l (h1.put lb (.loop {x with st:=1}))
 |_,_,_=>False
end
def setPs(ρ:Nat->Value):List Tmp->List Value->Option (Nat->Value)
 | [],[]=>some ρ
 |t::ts,v::vs=>setPs (aa ρ t v) ts vs
 |_,_=>none
theorem ow{n:Nat}: ∀(ts:List Tmp) (vs:List Value) (ρ ρ':Nat->Value),setPs ρ ts vs=some ρ'->kU (tab n ρ) ts vs=some (tab n ρ')
 | [],[],ρ,ρ',h=>by cases h;rfl
 | t::ts,v::vs,ρ,ρ',h=>by
   simp only [kU,tab_set]
   exact ow ts vs _ _ h
 | [],_::_,_,_,h=>by cases h
 |_::_,[],_,_,h=>by cases h
theorem pT{E:Env}{cx:Cx}{Q:dW}{c:Code}{l:Loc}{h:Hp}(hr:Run E (lim E) cx Q [.code c] .normal l h): ∃e l' h',(lim E).code cx c l h=some (e,l',h')/\Q e l' h':=by
 obtain⟨e,l',h',h1,h2⟩:=hr
 exact⟨e,l',h',by rw [rS];exact h1,h2⟩
theorem hI{E:Env}{lb n:Nat}{args:List Value}{h:Hp}{Q:Out->Hp->Prop}{fn:FuncId}{ρ ρ':Nat->Value}{params:Array Tmp}{assign body:Code}{db:Nat}
 (hget:h.get lb=some (.loop {fn,regs:=tab n ρ,nr:=n,params,assign,body,st:=0,pending:=none,defers:=db})) (hfn:(E.fn fn).isSome=true) (hp:setPs ρ params.toList args=some ρ')
 (hr:Run E (lim E) ⟨fn,n,some lb⟩ (sI E ⟨fn,n,some lb⟩ lb Q body) [.code assign] .normal (LL n ρ' [] none) h):jt E lb args h Q:=by
 obtain⟨e,l,h1,hc,hq⟩:=pT hr
 unfold jt g9
 rw [hget]
 simp only [hfn,cond_true,ow _ _ _ _ hp]
 rw [show Loc.mk (tab n ρ') [] none=LL n ρ' [] none from rfl,hc]
 cases e with
 |exit i=>exact hq.elim
 |ret=>exact hq.elim
 |pan v=>exact hq.elim
 | normal=>
   obtain⟨x,g1,g2,g3,g4,g5,g6⟩:=hq
   obtain⟨e2,l2,h2,hc2,hq2⟩:=pT g6
   simp only [g1,g2,hc2]
   cases e2 with
   |normal=>obtain⟨y,k1,k2⟩:=hq2;simp only [k1];exact⟨_,_,rfl,k2⟩
   |exit i=>obtain⟨y,k1,k2⟩:=hq2;simp only [k1];exact⟨_,_,rfl,k2⟩
   |ret=>obtain⟨y,k1,k2⟩:=hq2;simp only [k1];exact⟨_,_,rfl,k2⟩
   |pan v=>obtain⟨k1,k2⟩:=hq2;simp only [k1];exact⟨_,_,rfl,k2⟩
section
variable{E:Env}{cx:Cx}{lb:Nat}{Q:Out->Hp->Prop}{M:Nat->Prop}{h0 h:Hp}{L:List (Nat×Ob)}{G:List GL}{body:Code}{l:Loc}
theorem St.loopPut(S:St M h0 h L G){i:Nat}{X Y:eo}(hi:L[i]? =some (lb,.loop X)):h.get lb=some (.loop X)/\St M h0 (h.put lb (.loop Y)) (L.set i (lb,.loop Y)) G:=by
 have hx:h.get lb=some (.loop X):=(S.own _ (xW hi)).2
 refine⟨hx,S.put hi ?_⟩
 show(h.put lb _).get lb=_
 rw [Hp.get_put,if_pos ⟨rfl,by rw [hx];rfl⟩]
theorem gp(S:St M h0 h L G){i:Nat}{X:eo}(hi:L[i]? =some (lb,.loop X))(h1:X.st=0)(h2:X.fn=cx.fn)(h3:X.nr=cx.nr)(h4:X.body=body)
 (hk: ∀h',St M h0 h' (L.set i (lb,.loop {X with st:=1})) G->Run E (lim E) cx (nE lb Q) [.code body] .normal l h'):sI E cx lb Q body .normal l h:=by
 obtain⟨hx,S'⟩:=S.loopPut (Y:={X with st:=1}) hi
 exact⟨X,hx,h1,h2,h3,h4,hk _ S'⟩
theorem dY(S:St M h0 h L G){i:Nat}{X:eo}(hi:L[i]? =some (lb,.loop X))(hk: ∀h',St M h0 h' (L.set i (lb,.loop {X with st:=0,pending:=none})) G->Q (.ret (.bool true)) h'):nE lb Q .normal l h:=by
 obtain⟨hx,S'⟩:=S.loopPut (Y:={X with st:=0,pending:=none}) hi
 exact⟨X,hx,hk _ S'⟩
theorem round_ret(S:St M h0 h L G){i:Nat}{X:eo}(hi:L[i]? =some (lb,.loop X))(hk: ∀h',St M h0 h' (L.set i (lb,.loop {X with st:=2,pending:=some .ret})) G->Q (.ret (.bool false)) h'):nE lb Q .ret l h:=by
 obtain⟨hx,S'⟩:=S.loopPut (Y:={X with st:=2,pending:=some .ret}) hi
 exact⟨X,hx,hk _ S'⟩
end

def Iter(E:Env)(g:FuncId)(pre post:List Value)(h0:Hp)(D:Nat->Prop)(xs:List (List Value)):Prop:=
 ∀ (lb:Nat) (J:Nat->Hp->List Nat->Prop) (Z:Out->Hp->Prop) (h:Hp) (F:List Nat),
   h.t.Sized h.n->h0.n<=h.n->(∀b,b<h0.n->D b->h.get b=h0.get b)->
   (∀i h F,J i h F->h.t.Sized h.n/\ ∀b∈F,b<h.n)->(∀i h F h',J i h F->Gr h h'->J i h' F)->(∀h h',Z (.ret (.bool false)) h->Gr h h'->Z (.ret (.bool false)) h')->(∀b∈F,¬(b<h0.n/\D b))->
   (∀i x h F,xs[i]? =some x->J i h F->jt E lb x h fun o h'=>(o=.ret (.bool true)/\ ∃F',J (i+1) h' F'/\Mo (· ∈F) h h'/\ ∀b∈F',b∈F\/h.n<=b)\/(o=.ret (.bool false)/\Z o h'/\h'.t.Sized h'.n)\/((∃v,o=.pan v)/\Z o h'))->
   J 0 h F->eN E g (pre++[.func (.yield lb) #[] #[]]++post) none h fun o rc h'=>rc=none/\((∃u F',o=.ret u/\J xs.length h' F')\/(∃u,o=.ret u/\Z (.ret (.bool false)) h')\/(∃v,o=.pan v/\Z o h'))
end Go.Ab

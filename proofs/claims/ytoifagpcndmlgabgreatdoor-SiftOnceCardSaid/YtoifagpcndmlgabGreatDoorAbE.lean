/- A deterministic evaluator of the model's code, and that the model follows it (part 5). -/
import Derived.Test.YtoifagpcndmlgabGreatDoorAbD
import Derived.ChangeSame
import Derived.RowKit3
import Derived.JoinedOf
import Derived.KernelRfl
import Derived.WalkKit
import Derived.ProofKit
import Derived.OpenShut
import Derived.Carry
open Iff renaming rfl->zL
open List renaming mem_of_getElem?->zM,map_congr_left->Xf,replicate->Xg,getElem?_eq_some_iff->Xh,mem_cons_self->Xn,length_append->Xo,getElem?_map->Xp,drop_eq_getElem_cons->Xq,getElem?_append_left->Xr,getElem?_replicate->Xt,length_replicate->Xv,mem_map_of_mem->Xw
open Nat renaming ble_eq_true_of_le->zO,ble->Xa,le_refl->Xb,beq->Xc,eq_of_beq_eq_true->Xd,beq_refl->Xk,le_trans->Xl,lt_or_ge->Xm,blt->Xs,le_mul_of_pos_right->Xu
open Bool renaming and_eq_true->Xe
open Array renaming getElem?_eq_getElem->Xi
open Option renaming map_eq_some_iff->Xj
set_option maxHeartbeats 400000
set_option linter.defProp false
set_option linter.unusedVariables false
set_option linter.unusedSimpArgs false
namespace Go.Ab

def tabF:Nat->Nat->(Nat->Value)->Tr Value
 |0,_,_=>.nil
 | f+1,n,a=>match n with
   |0=>.nil
   |k+1=>.node (a 0) (tabF f ((k+1)/2) fun i=>a (2*i+1)) (tabF f (k/2) fun i=>a (2*i+2))
def tab(n:Nat)(ρ:Nat->Value):Tr Value:=tabF n n ρ
theorem get_tabF(f n:Nat)(ρ:Nat->Value)(h:n<=f)(j:Nat):(tabF f n ρ).get j=if j<n then some (ρ j)else none:=by
 induction f generalizing n j ρ with
 |zero=>grind[tabF,Tr.get_nil]
 | succ f a=>
   cases n with
   |zero=>rfl
   | succ k=>
     simp only [tabF]
     rw [Tr.get_node]
     grind
theorem lh(n:Nat)(ρ:Nat->Value)(j:Nat):(tab n ρ).get j=if j<n then some (ρ j)else none:=get_tabF n n ρ (Xb _) j
theorem Tr.ext{d:Type}{t t':Tr d}(h: ∀i,t.get i=t'.get i):t=t':=by
 induction t generalizing t' with
 | nil=>
   cases t' with
   |nil=>rfl
   |node y l r=>have:=h 0;simp [Tr.get_nil,Tr.get_node]at this
 | node x l r a b=>
   cases t' with
   |nil=>have:=h 0;simp [Tr.get_nil,Tr.get_node]at this
   | node y e f=>
     have c:=h 0
     simp [Tr.get_node]at c
     subst c
     rw [a (t':=e) (fun i=>by have:=h (2*i+1);simp_all[Tr.get_node,if_pos]),
      b (t':=f) (fun i=>by have:=h (2*i+2);simp only [Tr.get_node]at this;grind)]

def aa(ρ:Nat->Value)(t:Nat)(v:Value):Nat->Value:=fun i=>if i=t then v else ρ i
theorem aK(ρ:Nat->Value)(t:Nat)(v:Value)(i:Nat):aa ρ t v i=if i=t then v else ρ i:=rfl
theorem tab_set(n:Nat)(ρ:Nat->Value)(t:Nat)(v:Value):(tab n ρ).set t v=tab n (aa ρ t v):=by
 apply Tr.ext
 intro i
 rw [Tr.get_set,lh,lh]
 by_cases a:i<n
 . by_cases e:t=i
   . subst e;simp [a,aa]
   . simp [a,e,aa,Ne.symm e]
 . simp [a]
def bJ:List Value->Nat->Value
 | [],_=>.tuple #[]
 | v::l,i=>match i with
   |0=>v
   |i+1=>bJ l i
theorem argR_eq(l:List Value)(i:Nat):bJ l i=(l[i]?).getD (.tuple #[]):=by
 induction l generalizing i with
 |nil=>rfl
 | cons v l a=>cases i with
   |zero=>rfl
   |succ i=>simp [bJ,a]
theorem args_tab{n:Nat}{args:List Value}(h:args.length<=n):(Tr.blank (.tuple #[]) n n:Tr Value).setAll 0 args=tab n (bJ args):=by
 apply Tr.ext
 intro i
 rw [Tr.get_setAll _ 0 args n (Tr.sized_blank _ _ _ (Xb _)) (by omega),lh,Tr.get_blank _ _ _ (Xb _),argR_eq]
 grind

def LL(n:Nat)(ρ:Nat->Value)(d:List Deferred)(rc:Option (Value×Bool)):Loc:=⟨tab n ρ,d,rc⟩
theorem c8(n:Nat)(ρ:Nat->Value)(d:List Deferred)(rc:Option (Value×Bool))(t:Nat)(v:Value):(LL n ρ d rc).put (some t) v=LL n (aa ρ t v) d rc:=by
 simp only [LL,Loc.put,tab_set]
theorem ll_put0(l:Loc)(v:Value):l.put none v=l:=rfl
theorem bQ(n:Nat)(ρ:Nat->Value)(d:List Deferred)(rc:Option (Value×Bool))(t:Nat)(h:t<n):(LL n ρ d rc).ev (.tmp t)=ρ t:=by
 simp only [LL,Loc.ev,lh,if_pos h]
theorem ll_func(l:Loc)(f:Nat):l.ev (.func f)=.func (.func f) #[] #[]:=rfl
theorem ll_regs(n:Nat)(ρ:Nat->Value)(d:List Deferred)(rc:Option (Value×Bool)):(LL n ρ d rc).regs=tab n ρ:=rfl
def Then(x:Option (Ex×Loc×Hp))(K:Ex->Loc->Hp->Prop):Prop:= ∃e l h,x=some (e,l,h)/\K e l h
theorem gw{e:Ex}{l:Loc}{h:Hp}{K:Ex->Loc->Hp->Prop}:Then (some (e,l,h)) K↔K e l h:=by
 constructor
 . intro⟨_,_,_,h1,a⟩;grind
 . intro a;exact⟨_,_,_,rfl,a⟩

abbrev eF:=Ex->Loc->Hp->Prop
inductive Fr where
 |code (c:Code)
 |blk (id:Nat)
 |ops (all os:List Oper)
 |opsD (all:List Oper) (q:Nat) (ps:List (Nat×Nat)) (os:List Oper) (i:Nat) (tr:List (Nat×Tch))
 |kill (t:Tmp)
section
variable(E:Env)(R:Rec)(cx:Cx)(Q:eF)
def Run:List Fr->Ex->Loc->Hp->Prop
 | [],e,l,h=>Q e l h
 | .code c::k,.normal,l,h=> ∃g d f,aE E R cx c l h=some (g,d,f)/\Run k g d f
 | .ops a m::k,.normal,l,h=> ∃g d f,ir E R cx a m l h=some (g,d,f)/\Run k g d f
 | .opsD a q n m i o::k,.normal,l,h=> ∃d f j,bw E R a q m i l h o=some (d,f,j)/\cC j n=true/\Run k .normal d f
 | .kill t::k,.normal,l,h=> ∃b p c,l.ev (.tmp t)=.map (some b)/\h.get b=some (.map p c)/\Run k .normal l (h.put b .dead)
 | .blk _::k,.normal,l,h=>Run k .normal l h
 | .blk id::k,.exit i,l,h=>if i=id then Run k .normal l h else Run k (.exit i) l h
 |_::k,.exit i,l,h=>Run k (.exit i) l h
 |_::k,.ret,l,h=>Run k .ret l h
 |_::k,.pan v,l,h=>Run k (.pan v) l h
end
section
variable{E:Env}{R:Rec}{cx:Cx}{Q:eF}{k:List Fr}{l:Loc}{h:Hp}

theorem run_nil{e:Ex}:Run E R cx Q [] e l h↔Q e l h:=zL
theorem run_skip:Run E R cx Q (.code .skip::k) .normal l h↔Run E R cx Q k .normal l h:=by simp only [Run,aE];exact gw
theorem run_label{n:Nat}:Run E R cx Q (.code (.label n)::k) .normal l h↔Run E R cx Q k .normal l h:=by simp only [Run,aE];exact gw
theorem run_seq{a b:Code}:Run E R cx Q (.code (.seq a b)::k) .normal l h↔Run E R cx Q (.code a:: .code b::k) .normal l h:=by
 simp only [Run,aE]
 constructor
 . intro⟨e',l',h',c,h2⟩
   cases e:aE E R cx a l h with
   |none=>grind
   | some q=>
     obtain⟨x,f,d⟩:=q
     rw [e]at c
     refine⟨x,f,d,rfl,?_⟩
     cases x with
     |normal=>exact⟨e',l',h',c,h2⟩
     |exit i=>cases c;exact h2
     |ret=>cases c;exact h2
     |pan v=>cases c;exact h2
 . intro⟨x,f,d,e,h2⟩
   rw [e]
   cases x with
   |normal=>exact h2
   |exit i=>exact⟨_,_,_,rfl,h2⟩
   |ret=>exact⟨_,_,_,rfl,h2⟩
   |pan v=>exact⟨_,_,_,rfl,h2⟩
theorem run_block {id:Nat} {b:Code}:Run E R cx Q (.code (.block id b)::k) .normal l h↔Run E R cx Q (.code b:: .blk id::k) .normal l h:=by
 simp only [Run,aE]
 constructor
 . intro ⟨e',l',h',a,h2⟩
   cases e:aE E R cx b l h with
   |none=>grind
   | some q=>
     obtain⟨x,f,c⟩:=q
     rw [e]at a
     refine⟨x,f,c,rfl,?_⟩
     cases x with
     |normal=>cases a;exact h2
     | exit i=>
       simp only []at a
       cases d:Xc i id with
       |true=>simp_all[Xd,Run,if_true]
       | false=>
         rw [d]at a;cases a
         simp only [Run]
         rw [if_neg (by grind[Xk])];exact h2
     |ret=>cases a;exact h2
     |pan v=>cases a;exact h2
 . intro⟨x,f,c,e,h2⟩
   rw [e]
   cases x with
   |normal=>exact⟨_,_,_,rfl,h2⟩
   | exit i=>
     simp only [Run]at h2
     simp only []
     by_cases d:i=id
     . subst d;rw [if_pos rfl]at h2;rw [Xk];grind
     . rw [if_neg d]at h2
       have:Xc i id=false:=by
        grind[Xc,id,absurd,Xd]
       grind
   |ret=>exact⟨_,_,_,rfl,h2⟩
   |pan v=>exact⟨_,_,_,rfl,h2⟩
theorem run_scope{b:Code}:Run E R cx Q (.code (.scope b)::k) .normal l h↔Run E R cx Q (.code b::k) .normal l h:=zL
theorem run_blk{id:Nat}:Run E R cx Q (.blk id::k) .normal l h↔Run E R cx Q k .normal l h:=zL
theorem run_exit{id:Nat}:Run E R cx Q (.code (.exit id)::k) .normal l h↔Run E R cx Q k (.exit id) l h:=by simp only [Run,aE];exact gw
theorem run_ret:Run E R cx Q (.code .ret::k) .normal l h↔Run E R cx Q k .ret l h:=by simp only [Run,aE];exact gw
theorem yS{id i:Nat}:Run E R cx Q (.blk id::k) (.exit i) l h↔if i=id then Run E R cx Q k .normal l h else Run E R cx Q k (.exit i) l h:=zL
theorem yh{c:Code}{i:Nat}:Run E R cx Q (.code c::k) (.exit i) l h↔Run E R cx Q k (.exit i) l h:=zL
theorem Al{a os:List Oper}{i:Nat}:Run E R cx Q (.ops a os::k) (.exit i) l h↔Run E R cx Q k (.exit i) l h:=zL
theorem B9{f:Fr}:Run E R cx Q (f::k) .ret l h↔Run E R cx Q k .ret l h:=by cases f<;>exact zL
theorem Ci{f:Fr}{v:Value}:Run E R cx Q (f::k) (.pan v) l h↔Run E R cx Q k (.pan v) l h:=by cases f<;>exact zL
theorem run_cond{c:Operand}{a b:Code}:Run E R cx Q (.code (.cond c a b)::k) .normal l h↔ ∃t,l.ev c=.bool t/\if t=true then Run E R cx Q (.code a::k) .normal l h else Run E R cx Q (.code b::k) .normal l h:=by
 simp only [Run,aE]
 grind
theorem Ca{id:Nat}{ops:Array Oper}:Run E R cx Q (.code (.region id ops false)::k) .normal l h↔Run E R cx Q (.ops ops.toList ops.toList::k) .normal l h:=by rfl
theorem AC{a:List Oper}:Run E R cx Q (.ops a []::k) .normal l h↔Run E R cx Q k .normal l h:=by simp only [Run,ir];exact gw
theorem yK{a os:List Oper}{o:Oper}:Run E R cx Q (.ops a (o::os)::k) .normal l h↔ ∃b,bW a l.regs o=some b/\
 (if b=true then Then (dL E R cx o l h) fun e l' g=>Run E R cx Q (.ops a os::k) e l' g else Run E R cx Q (.ops a os::k) .normal (l.put o.dst (.tuple #[])) h):=by
 simp only [Run,ir]
 constructor
 . intro ⟨e',l',g,d,c⟩
   cases j:bW a l.regs o with
   |none=>grind
   | some b=>
     rw [j]at d
     refine⟨b,rfl,?_⟩
     cases b with
     |false=>grind
     | true=>
       rw [if_pos rfl]
       simp only []at d
       cases m:dL E R cx o l h with
       |none=>grind
       | some q=>
         obtain⟨x,n,f⟩:=q
         rw [m]at d
         refine⟨x,n,f,rfl,?_⟩
         cases x with
         |normal=>exact⟨e',l',g,d,c⟩
         |exit i=>cases d;exact c
         |ret=>cases d;exact c
         |pan v=>cases d;exact c
 . intro⟨b,j,c⟩
   rw [j]
   cases b with
   |false=>grind
   | true=>
     rw [if_pos rfl]at c
     obtain⟨x,n,f,m,c⟩:=c
     simp only [m]
     cases x with
     |normal=>exact c
     |exit i=>exact⟨_,_,_,rfl,c⟩
     |ret=>exact⟨_,_,_,rfl,c⟩
     |pan v=>exact⟨_,_,_,rfl,c⟩

theorem run_draw{id:Nat}{ops:Array Oper}{q:Nat}{ps:List (Nat×Nat)}{os:List Oper}(a:E.cut cx.fn=false)(b:bG ops.toList=os)(c:jR E os=some (q,ps)):Run E R cx Q (.code (.region id ops true)::k) .normal l h↔Run E R cx Q (.opsD os q ps os 0 []::k) .normal l h:=by
 simp only [Run,aE,cond_true,a,cond_false,b,c]
 grind
theorem run_fork{id:Nat}{ops:Array Oper}{q:Nat}{ps:List (Nat×Nat)}{os:List Oper}{t:Tmp}(a:E.cut cx.fn=true)(d:bG ops.toList=os)(e:pX E os (l9 os)=some t)(f:tE E os=some (q,ps))
 (g:Run E R cx Q (.opsD os q ps os 0 []:: .kill t::k) .normal l h):Run E R cx Q (.code (.region id ops true)::k) .normal l h:=by
 obtain⟨p,r,i,j,m,b,s,c,n,o,u⟩:=g
 have hf:rU E ops.toList=true:=by unfold rU;rw [d,e];rfl
 simp only [Run,aE,cond_true,a,cutD,hf,forkD,d,f,j,m,e,mU,n,o]
 grind
theorem run_kill{t:Tmp}{b c:Nat}{a:List (Value×Value×Nat)}(d:l.ev (.tmp t)=.map (some b))(e:h.get b=some (.map a c))(f:Run E R cx Q k .normal l (h.put b .dead)):Run E R cx Q (.kill t::k) .normal l h:=⟨b,a,c,d,e,f⟩
theorem Av{a:List Oper}{q i:Nat}{ps:List (Nat×Nat)}{b:List (Nat×Tch)}:Run E R cx Q (.opsD a q ps [] i b::k) .normal l h↔cC b ps=true/\Run E R cx Q k .normal l h:=by
 simp only [Run,bw]
 grind
theorem yi{a os:List Oper}{o:Oper}{q i:Nat}{ps:List (Nat×Nat)}{c:List (Nat×Tch)}:Run E R cx Q (.opsD a q ps (o::os) i c::k) .normal l h↔ ∃b,bW a l.regs o=some b/\
 (if b=true then∃v d,cH E R (l.evD (tmpsOf o.op.operands.toList)) (dX E q i o.op) o h=some (v,d)/\
     Run E R cx Q (.opsD a q ps os (i+1) (gm i c (cd (l.evD (tmpsOf o.op.operands.toList)) (dX E q i o.op) o.op h d))::k) .normal (l.put o.dst v) d
   else Run E R cx Q (.opsD a q ps os (i+1) c::k) .normal (l.put o.dst (.tuple #[])) h):=by
 simp only [Run,bw]
 grind
end
end Go.Ab

namespace Go.Ab

noncomputable def envOf(a:Tr Func)(b:Tr TypeInfo)(c:List Nat):Env:={fn:=fun f=>a.get f,ty:=fun t=>b.get t,eqok:=fun t=>mg t c}

theorem za{P:Program}{f:FuncId}{b:Func}(hf:P.funcs[f]? =some b)(e:b.body.isSome=true)(c:(b.name== "runtime.NumGoroutine")=false)(args:Array Value)(w:World):
 (callFunc f args).run P w=.ok (.enter f args) w:=by
 have a:b.body.isNone=false:=by cases h:b.body<;>simp_all
 unfold callFunc
 have d:program.run P w=.ok P w:=rfl
 simp only [Sem.run_bind,d,Result.andThen_ok,hf,c,a,Bool.false_eq_true,if_false,Sem.run_pure]

theorem eok_of{P:Program}{fns:Tr Func}{tys:Tr TypeInfo}{eqs:List Nat}(h1:fns=Tr.ofList P.funcs.toList)(h2:tys=Tr.ofList P.types.toList)
 (h3:(P.funcs.toList.all fun fn=>fn.body.isNone|| !(fn.name== "runtime.NumGoroutine"))=true) (h4:(eqs.all fun t=>!P.stoodInHeld t&& !P.eqGuardType P.depth t)=true)
 (h5:P.follows .mixedOrders=true):EOk (envOf fns tys eqs) P where
 fn:=by
  intro f fn h
  have h':fns.get f=some fn:=h
  rw [h1,Tr.get_ofList]at h'
  simpa using h'
 call:=by
  intro f fn args w h hb
  have h':fns.get f=some fn:=h
  rw [h1,Tr.get_ofList]at h'
  have hm:=zM h'
  have:=(List.all_eq_true.1 h3) fn hm
  refine za (by simpa using h') hb ?_ args w
  cases hn:(fn.name== "runtime.NumGoroutine")with
  |false=>rfl
  |true=>rw [hn]at this;cases hx:fn.body<;>simp_all
 ty:=by
  intro t i h
  have h':tys.get t=some i:=h
  rw [h2,Tr.get_ofList]at h'
  show P.toTables.info? t=some i
  have hk:P.types[t]? =some i:=by simpa using h'
  unfold Tables.info?
  rw [if_pos (Array.getElem?_eq_some_iff.1 hk).1];exact hk
 eq:=by
  intro t h
  have hm:t∈eqs:=(mD t eqs).1 h
  have:=(List.all_eq_true.1 h4) t hm
  simp only [Xe,Bool.not_eq_true']at this
  exact this
 mixed:=h5
 orc:=by
  intro g args v h
  cases h
noncomputable def qM(E:Env)(o:Nat->List Value->Option Value):Env:={E with orc:=o}
noncomputable def withCut(E:Env)(c:Nat->Bool):Env:={E with cut:=c}
theorem eok_cut{E:Env}{P:Program}(ok:EOk E P)(c:Nat->Bool):EOk (withCut E c) P where
 fn:=ok.fn
 call:=ok.call
 ty:=ok.ty
 eq:=ok.eq
 mixed:=ok.mixed
 orc:=ok.orc
theorem eok_with{E:Env}{P:Program}(ok:EOk E P){o:Nat->List Value->Option Value}(ho: ∀g args v,o g args=some v->(∃fn,E.fn g=some fn/\fn.body.isSome=true)/\OrcAt P g args v):EOk (qM E o) P where
 fn:=ok.fn
 call:=ok.call
 ty:=ok.ty
 eq:=ok.eq
 mixed:=ok.mixed
 orc:=ho
end Go.Ab
namespace Go.Ab
open Go.ChangeShapes Go.WideShapes
variable{H:Type}{enc:TypeId×Value->H}{P:Program}
end Go.Ab

namespace Go.Ab

def fK(E:Env)(f:FuncId)(args:List Value)(rc:Option (Value×Bool))(h:Hp)(Q:Out->Option (Value×Bool)->Hp->Prop):Prop:= ∃o a b,(lim E).call f args rc h=some (o,a,b)/\Q o a b
def Ret(E:Env)(f:FuncId)(args:List Value)(h:Hp)(Q:Value->Hp->Prop):Prop:= ∃v a,(lim E).call f args none h=some (.ret v,none,a)/\Q v a
theorem Ret.mono{E:Env}{f:FuncId}{args:List Value}{h:Hp}{Q d:Value->Hp->Prop}(k: ∀v c,Q v c->d v c)(r:Ret E f args h Q):Ret E f args h d:=by
 obtain⟨v,c,a,b⟩:=r;exact⟨v,c,a,k v c b⟩
def kC(E:Env)(b:Nat)(args:List Value)(h:Hp)(Q:Out->Hp->Prop):Prop:= ∃o a,iV E (lim E) b args h=some (o,a)/\Q o a

section
variable(E:Env)(cx:Cx)(o:Oper)(l:Loc)(K:Ex->Loc->Hp->Prop)
def eZ:Option (dl×Hp)->Prop
 |some (.val v,a)=>K .normal (l.put o.dst v) a
 |some (.skip,a)=>K .normal (l.put o.dst (.tuple #[])) a
 | some (.call f c,a)=>fK E f c none a fun x _ e=>match x with
   | .ret v=>K .normal (l.put o.dst v) e
   | .pan v=>K (.pan v) l e
 | some (.yield b c,a)=>kC E b c a fun x e=>match x with
   | .ret v=>K .normal (l.put o.dst v) e
   | .pan v=>K (.pan v) l e
 |some (.panic v,a)=>K (.pan v) l a
 | some (.recov,a)=>cx.round=none/\match l.rc with
   |some (v,false)=>K .normal (({l with rc:=some (v,true)}:Loc).put o.dst v) a
   |_=>K .normal (l.put o.dst .nilIface) a
 |some (.defer d,a)=>cx.round=none/\K .normal (({l with dfs:=d::l.dfs}:Loc).put o.dst (.tuple #[])) a
 |none=>False
end
section
variable{E:Env}{cx:Cx}{o:Oper}{l:Loc}{K:Ex->Loc->Hp->Prop}{h:Hp}
theorem then_step:Then (dL E (lim E) cx o l h) K↔eZ E cx o l K (aop E l.ev h o.op):=by
 unfold dL
 cases p:aop E l.ev h o.op with
 | none=>
   simp only [eZ,cR,nG]
   exact⟨fun⟨_,_,_,i,_⟩=>(by cases i),fun h=>h.elim⟩
 | some q=>
   obtain⟨m,i⟩:=q
   cases m with
   |val v=>exact gw
   |skip=>exact gw
   |panic v=>exact gw
   | call f g=>
     simp only [eZ,cR,fK]
     constructor
     . intro⟨e,l',h',a,b⟩
       cases j:(lim E).call f g none i with
       |none=>rw [j]at a;cases a
       | some q=>
         obtain⟨x,n,k⟩:=q
         rw [j]at a
         cases x<;>(cases a;grind)
     . intro⟨x,n,k,a,b⟩
       rw [a]
       cases x<;>exact⟨_,_,_,rfl,b⟩
   | yield b g=>
     simp only [eZ,cR,kC]
     constructor
     . intro⟨e,l',h',a,c⟩
       cases j:iV E (lim E) b g i with
       |none=>rw [j]at a;cases a
       | some q=>
         obtain⟨x,k⟩:=q
         rw [j]at a
         cases x<;>(cases a;grind)
     . intro⟨x,k,a,c⟩
       rw [a]
       cases x<;>exact⟨_,_,_,rfl,c⟩
   | recov=>
     simp only [eZ]
     cases cx.round with
     |some r=>simp only [];exact⟨fun⟨_,_,_,i,_⟩=>(by cases i),fun h=>(by cases h.1)⟩
     | none=>
       simp only [true_and]
       grind[gw]
   | defer d=>
     simp only [eZ]
     cases cx.round with
     |some r=>simp only [];exact⟨fun⟨_,_,_,i,_⟩=>(by cases i),fun h=>(by cases h.1)⟩
     |none=>simp only [true_and];exact gw
theorem ym{v:Value}:eZ E cx o l K (some (.val v,h))↔K .normal (l.put o.dst v) h:=zL
theorem wH:eZ E cx o l K (some (.skip,h))↔K .normal (l.put o.dst (.tuple #[])) h:=zL
theorem vV{v:Value}:eZ E cx o l K (some (.panic v,h))↔K (.pan v) l h:=zL
theorem step_ret{f:FuncId}{args:List Value}{Q:Value->Hp->Prop}(d:Ret E f args h Q)(e: ∀v c,Q v c->K .normal (l.put o.dst v) c):eZ E cx o l K (some (.call f args,h)):=by
 obtain⟨v,c,a,b⟩:=d
 exact⟨.ret v,none,c,a,e v c b⟩
end

def oH(E:Env)(rs:List ResultVar)(Q:Out->Option (Value×Bool)->Hp->Prop):eF
 | .exit _,_,_=>False
 | .pan v,l,h=> ∃m a,bT (lim E) l.dfs (some v) h=some (m,a)/\match m with
   |some v=>Q (.pan v) l.rc a
   |none=> ∃b,aY E l.regs a rs=some b/\Q (.ret (ae b)) l.rc a
 | .normal,l,h=> ∃a,bT (lim E) l.dfs none h=some (none,a)/\ ∃b,aY E l.regs a rs=some b/\Q (.ret (ae b)) l.rc a
 | .ret,l,h=> ∃a,bT (lim E) l.dfs none h=some (none,a)/\ ∃b,aY E l.regs a rs=some b/\Q (.ret (ae b)) l.rc a

theorem enter{E:Env}{f:FuncId}{k:Func}{body:Code}{n:Nat}{rs:List ResultVar}{args:List Value}{rc:Option (Value×Bool)}{h:Hp}{Q:Out->Option (Value×Bool)->Hp->Prop}
 (q:E.orc f args=none) (hf:E.fn f=some k) (r:k.body=some body) (s:k.ntmps=n) (o:k.results.toList=rs) (hle:args.length<=n)
 (t:Run E (lim E) ⟨f,n,none⟩ (oH E rs Q) [.code body] .normal (LL n (bJ args) [] rc) h):fK E f args rc h Q:=by
 obtain⟨e,l,u,w,j⟩:=t
 simp only [Run]at j
 unfold fK
 rw [call_eq]
 unfold iB
 rw [q]
 simp only []
 unfold jL
 rw [hf]
 simp only []
 rw [r]
 simp only []
 rw [s,zO hle]
 simp only [cond_true]
 rw [args_tab hle]
 have g:(lim E).code ⟨f,n,none⟩ body ⟨tab n (bJ args),[],rc⟩ h=some (e,l,u):=by rw [wS];exact w
 rw [g,o]
 cases e with
 |exit i=>exact j.elim
 | pan v=>
   obtain⟨m,p,a,b⟩:=j
   grind
 |normal=>obtain⟨p,a,x,c,d⟩:=j;grind
 |ret=>obtain⟨p,a,x,c,d⟩:=j;grind
def RetQ(Q:Value->Hp->Prop):Out->Option (Value×Bool)->Hp->Prop
 | .ret v,none,h=>Q v h
 |_,_,_=>False
theorem ret_of{E:Env}{f:FuncId}{args:List Value}{h:Hp}{Q:Value->Hp->Prop}(hq:fK E f args none h (RetQ Q)):Ret E f args h Q:=by
 obtain⟨o,c,d,a,b⟩:=hq
 cases o with
 |pan v=>exact b.elim
 | ret v=>cases c with
   |none=>exact⟨v,d,a,b⟩
   |some y=>exact b.elim
theorem ab{E:Env}{f:FuncId}{a:Func}{body:Code}{n:Nat}{rs:List ResultVar}{args:List Value}{h:Hp}{Q:Value->Hp->Prop}
 (c:E.orc f args=none) (hf:E.fn f=some a) (d:a.body=some body) (e:a.ntmps=n) (b:a.results.toList=rs) (hle:args.length<=n)
 (g:Run E (lim E) ⟨f,n,none⟩ (oH E rs (RetQ Q)) [.code body] .normal (LL n (bJ args) [] none) h):Ret E f args h Q:=ret_of (enter c hf d e b hle g)
theorem ret_orc{E:Env}{f:FuncId}{args:List Value}{h:Hp}{v:Value}{Q:Value->Hp->Prop}(a:E.orc f args=some v)(hq:Q v h):Ret E f args h Q:=by
 refine⟨v,h,?_,hq⟩
 rw [call_eq]
 unfold iB
 rw [a]
section
variable{E:Env}{rs:List ResultVar}{Q:Value->Hp->Prop}{n:Nat}{ρ:Nat->Value}{h:Hp}
theorem xO:oH E rs (RetQ Q) .ret (LL n ρ [] none) h↔ ∃vs,aY E (tab n ρ) h rs=some vs/\Q (ae vs) h:=by
 simp only [oH,LL,bT]
 constructor
 . intro⟨h',a,b⟩;cases a;exact b
 . intro b;exact⟨h,rfl,b⟩
theorem zi:oH E rs (RetQ Q) .normal (LL n ρ [] none) h↔ ∃vs,aY E (tab n ρ) h rs=some vs/\Q (ae vs) h:=xO
theorem dH{P:List Value->Prop}:(∃vs,aY E (tab n ρ) h []=some vs/\P vs)↔P []:=by
 simp only [aY]
 grind
theorem jw{t:Tmp}{P:List Value->Prop}(a:t<n):(∃vs,aY E (tab n ρ) h (.tmp t::rs)=some vs/\P vs)↔ ∃vs,aY E (tab n ρ) h rs=some vs/\P (ρ t::vs):=by
 simp only [aY,lh,if_pos a]
 grind
theorem cU{t:Tmp}{ty:TypeId}{v:Value}{P:List Value->Prop}(a:t<n)(b:eI E h ty (ρ t)=some v):(∃vs,aY E (tab n ρ) h (.cell t ty::rs)=some vs/\P vs)↔ ∃vs,aY E (tab n ρ) h rs=some vs/\P (v::vs):=by
 simp only [aY,lh,if_pos a,b]
 grind
end
end Go.Ab

namespace Go.Ab

structure Gr(h h':Hp):Prop where
 ok0:h.t.Sized h.n
 ok:h'.t.Sized h'.n
 n:h.n<=h'.n
 get: ∀b,b<h.n->h'.get b=h.get b
 lo: ∀x,x<=h.n->x<=h.lo->x<=h'.lo
theorem Gr.refl{h:Hp}(a:h.t.Sized h.n):Gr h h:=⟨a,a,Xb _,fun _ _=>rfl,fun _ _ h=>h⟩
theorem Gr.trans{a b c:Hp}(x:Gr a b)(y:Gr b c):Gr a c:=
 ⟨x.ok0,y.ok,Xl x.n y.n,fun i d=>(y.get i (Nat.lt_of_lt_of_le d x.n)).trans (x.get i d),fun i e f=>y.lo i (Xl e x.n) (x.lo i e f)⟩
theorem new_ok{h:Hp}(a:h.t.Sized h.n)(x:Blk):(h.new x).t.Sized (h.new x).n:=Tr.sized_push x a
theorem put_ok{h:Hp}(a:h.t.Sized h.n)(b:Nat)(x:Blk):(h.put b x).t.Sized (h.put b x).n:=Tr.sized_set b x a
theorem Gr.new{h:Hp}(a:h.t.Sized h.n)(x:Blk):Gr h (h.new x):=
 ⟨a,new_ok a x,Nat.le_succ _,fun b c=>by rw [h.get_new x a,if_neg (by omega)],fun _ _ h=>h⟩
theorem Gr.put{a h:Hp}(g:Gr a h){b:Nat}(j:a.n<=b)(x:Blk):Gr a (h.put b x):=by
 refine⟨g.ok0,put_ok g.ok b x,g.n,fun i c=>?_,fun i d f=>?_⟩
 . rw [Hp.get_put,if_neg (fun e=>by omega)];exact g.get i c
 . have:=g.lo i d f
   show i<=df b h.lo
   grind[df,Xa]
theorem gy{h:Hp}(a:h.t.Sized h.n){b:Nat}{x:Blk}(e:h.get b=some x):b<h.n:=(a b).1 (by show(h.get b).isSome=true;rw [e];rfl)
theorem Gr.at{h a:Hp}(g:Gr h a){b:Nat}{x:Blk}(e:h.get b=some x):a.get b=some x:=by rw [g.get b (gy g.ok0 e)];exact e
theorem a8{h:Hp}(a:h.t.Sized h.n){b o n:Nat}{l:List Value}(e:h.load b o n=some l):b<h.n:=by
 unfold Hp.load at e
 split at e
 next c=>exact gy a c
 next=>cases e
theorem Gr.load{h a:Hp}(g:Gr h a){b o n:Nat}{l:List Value}(e:h.load b o n=some l):a.load b o n=some l:=by
 have:=g.get b (a8 g.ok0 e)
 grind[Hp.load]
theorem Gr.hlo{h a:Hp}(g:Gr {h with lo:=h.n} a):Xa h.n a.lo=true:=zO (g.lo h.n (Xb _) (Xb _))

def Row(h:Hp)(b:Nat)(l:List Value)(md:Nat):Prop:= ∃t el,h.get b=some (.cells t l.length el md)/\t.Sized l.length/\ ∀i:Nat,t.get i=l[i]?
theorem Row.gr{h d:Hp}(g:Gr h d){b:Nat}{l:List Value}{md:Nat}(r:Row h b l md):Row d b l md:=by
 obtain⟨t,el,a,b,c⟩:=r;exact⟨t,el,g.at a,b,c⟩
theorem Row.lt{h:Hp}(c:h.t.Sized h.n){b:Nat}{l:List Value}{md:Nat}(r:Row h b l md):b<h.n:=by
 obtain⟨t,el,a,_,_⟩:=r;exact gy c a
theorem Au{a:Type}{t:Tr a}{l:List a}(b: ∀i:Nat,t.get i=l[i]?): ∀(n o:Nat),o+n<=l.length->t.slice o n=some ((l.drop o).take n)
 |0,o,_=>by simp [Tr.slice]
 | n+1,o,h=>by
   simp only [Tr.slice]
   have:l[o]? =some l[o]:=List.getElem?_eq_getElem (by omega)
   rw [b o,this,Au b n (o+1) (by omega)]
   simp only []
   congr 1
   rw [show List.drop o l=l[o]::List.drop (o+1) l from Xq (by omega)]
   rfl
theorem Row.load{h:Hp}{b:Nat}{l:List Value}{md:Nat}(r:Row h b l md){o n:Nat}(d:o+n<=l.length):h.load b o n=some ((l.drop o).take n):=by
 obtain⟨t,el,a,_,c⟩:=r
 grind[Hp.load,zO,Au]
theorem Row.load1{h:Hp}{b:Nat}{l:List Value}{md:Nat}(r:Row h b l md){o:Nat}{v:Value}(a:l[o]? =some v):h.load b o 1=some [v]:=by
 have hlt:=(List.getElem?_eq_some_iff.1 a).1
 rw [r.load (by omega)]
 grind[Xq,Xh]
theorem pq{h:Hp}(a:h.t.Sized h.n)(l:List Value)(el md:Nat):Row (h.new (.cells (Tr.ofList l) l.length el md)) h.n l md:=
 ⟨Tr.ofList l,el,by rw [h.get_new _ a,if_pos rfl],Tr.sized_ofList l,fun i=>Tr.get_ofList l i⟩
def lay(l:List Value)(o:Nat)(vs:List Value):List Value:=l.take o++vs++l.drop (o+vs.length)
theorem oG{l:List Value}{o:Nat}{vs:List Value}(h:o+vs.length<=l.length):(lay l o vs).length=l.length:=by simp [lay];omega
theorem jn{l:List Value}{o:Nat}{vs:List Value}(h:o+vs.length<=l.length)(i:Nat):(lay l o vs)[i]? =if o<=i/\i<o+vs.length then vs[i-o]? else l[i]? :=by
 unfold lay
 by_cases a:i<o
 . grind
 grind
theorem Row.store{h:Hp}(g:h.t.Sized h.n){b:Nat}{l:List Value}{md:Nat}(r:Row h b l md)(f:md≠0){o:Nat}{vs:List Value}(e:o+vs.length<=l.length)(j:vs.all kM=true):
 ∃x,h.store b o vs=some (h.put b x)/\Row (h.put b x) b (lay l o vs) md:=by
 obtain⟨t,el,a,d,c⟩:=r
 refine⟨.cells (t.setAll o vs) l.length el md,?_,?_⟩
 . grind[Hp.store,Xc,absurd,Xd,zO]
 . refine⟨t.setAll o vs,el,?_,?_,fun i=>?_⟩
   . rw [Hp.get_put,if_pos ⟨rfl,by rw [a];rfl⟩,oG e]
   . rw [oG e];exact Tr.sized_setAll o vs d
   grind[Tr.get_setAll,jn]
end Go.Ab

namespace Go.Ab

theorem pop_ext{E:Env}{op:Op}{ρ d:Operand->Value}(e: ∀x∈op.operands.toList,ρ x=d x):pop E ρ op=pop E d op:=by
 cases op
 case build t g=>
  grind[pop,Xf,Op.operands]
 case makeFunc f a b=>
  cases f<;>(try rfl)
  grind[pop,Array.map_congr_left,Op.operands]
 case slice t x l h m=>
  simp only [pop]
  have i:=e x (by simp [Op.operands])
  have j:l.map ρ=l.map d:=by cases l with|none=>rfl|some y=>simp [e y (by simp [Op.operands])]
  have k:h.map ρ=h.map d:=by cases h with|none=>rfl|some y=>simp [e y (by simp [Op.operands])]
  have n:m.map ρ=m.map d:=by cases m with|none=>rfl|some y=>simp [e y (by simp [Op.operands])]
  grind
 case call c=>
  have o:c.args.toList.map ρ=c.args.toList.map d:=by
   grind[Xf,Op.operands,Call.operands]
  grind[pop,invoke,builtin,Xn,Op.operands,Call.operands]
 all_goals (try rfl)
 all_goals first
  |(unfold Op.operands at e;simp at e;simp only [pop];simp [e];done)
  |(simp only [pop];done)
  |(cases ‹Fn› <;>simp only [pop];done)

theorem tv{E:Env}{op:Op}{h:Hp}{ρ a:Operand->Value}(e: ∀x∈op.operands.toList,ρ x=a x):aop E ρ h op=aop E a h op:=by
 have d:=pop_ext (E:=E) e
 cases op
 case buildSlice t n j=>
  grind[aop,Xf,Op.operands]
 case makeMap t r=>cases r<;>simp only [aop,d]
 case call c=>
  have i:c.args.toList.map ρ=c.args.toList.map a:=by
   grind[Xf,Op.operands,Call.operands]
  have k: ∀x∈c.args.toList,ρ x=a x:=by
   simp_all
  cases g:c.callee with
  | value f=>
    grind[hf,Op.operands,Call.operands,aop]
  |invoke r n=>simp only [aop,g]
  | builtin b=>
    cases b<;>simp only [aop,g,d]<;>(try rfl)
    all_goals grind
 case defer c=>
  have i:c.args.toList.map ρ=c.args.toList.map a:=by
   grind[Xf,Op.operands,Call.operands]
  grind[hf,Op.operands,Call.operands,aop,invoke,builtin]
 all_goals first
  |(simp only [aop];done)
  |(simp only [aop,d];done)
  |(unfold Op.operands at e;simp at e;simp only [aop,e];done)
theorem touch_ext{op:Op}{ρ a:Operand->Value}(e: ∀x∈op.operands.toList,ρ x=a x):touch ρ op=touch a op:=by
 cases op
 case call c=>
  grind[touch,Op.operands,Call.operands]
 all_goals first
  |rfl
  |(unfold Op.operands at e;simp at e;simp only [touch,e];done)
  |(simp only [touch];done)
theorem tB(l:Loc)(op:Op): ∀x∈op.operands.toList,l.evD (tmpsOf op.operands.toList) x=l.ev x:=by
 intro x a
 cases x with
 | tmp t=>
   grind[Loc.evD,mD,rA]
 |_=>rfl

def jF(E:Env)(K:Value->Hp->Prop):Option (dl×Hp)->Prop
 |some (.val v,c)=>K v c
 |some (.skip,c)=>K (.tuple #[]) c
 | some (.call f a,c)=>fK E f a none c fun x _ d=>match x with
   | .ret v=>K v d
   | .pan _=>False
 | some (.yield b a,c)=>kC E b a c fun x d=>match x with
   | .ret v=>K v d
   | .pan _=>False
 |_=>False
theorem opVal_n{E:Env}{x:Option (dl×Hp)}{K:Value->Hp->Prop}:(∃v e,cR E (lim E) x=some (.ret v,e)/\K v e)↔jF E K x:=by
 cases x with
 |none=>exact⟨fun⟨_,_,a,_⟩=>(by cases a),fun h=>h.elim⟩
 | some q=>
   obtain⟨g,i⟩:=q
   cases g with
   |val v=>exact⟨fun⟨_,_,a,b⟩=>(by cases a;exact b),fun h=>⟨_,_,rfl,h⟩⟩
   |skip=>exact⟨fun⟨_,_,a,b⟩=>(by cases a;exact b),fun h=>⟨_,_,rfl,h⟩⟩
   |panic v=>exact⟨fun⟨_,_,a,_⟩=>(by cases a),fun h=>h.elim⟩
   |recov=>exact⟨fun⟨_,_,a,_⟩=>(by cases a),fun h=>h.elim⟩
   |defer d=>exact⟨fun⟨_,_,a,_⟩=>(by cases a),fun h=>h.elim⟩
   | call f c=>
     simp only [jF,cR,fK]
     grind
   | yield b c=>
     grind[jF,cR,kC]
theorem stepD_iff{E:Env}{l:Loc}{a:Bool}{o:Oper}{h:Hp}{K:Value->Hp->Prop}:(∃v b,cH E (lim E) (l.evD (tmpsOf o.op.operands.toList)) a o h=some (v,b)/\K v b)↔
 (if a=true then jF E (fun v b=>Xa h.n b.lo=true/\K v {b with lo:=h.lo}) (aop E l.ev {h with lo:=h.n} o.op)else jF E K (aop E l.ev h o.op)):=by
 have e:=tB l o.op
 unfold cH
 cases a with
 | false=>
   rw [if_neg (by simp)]
   simp only [cond_false]
   rw [tv e,<-opVal_n]
   grind
 | true=>
   rw [if_pos rfl]
   simp only [cond_true]
   rw [tv e,<-opVal_n]
   grind
theorem Bo{op:Op}{ρ a:Operand->Value}{b:Bool}{h c:Hp}(e: ∀x∈op.operands.toList,ρ x=a x):cd ρ b op h c=cd a b op h c:=by
 unfold cd iN;rw [touch_ext e]
theorem run_opsD{E:Env}{cx:Cx}{Q:eF}{k:List Fr}{l:Loc}{h:Hp}{a os:List Oper}{o:Oper}{q i:Nat}{ps:List (Nat×Nat)}{d:List (Nat×Tch)}:Run E (lim E) cx Q (.opsD a q ps (o::os) i d::k) .normal l h↔ ∃b,bW a l.regs o=some b/\
 (if b =true then(if dX E q i o.op=true then
       jF E (fun v c=>Xa h.n c.lo=true/\Run E (lim E) cx Q (.opsD a q ps os (i+1) (gm i d (cd l.ev true o.op h h))::k) .normal (l.put o.dst v) {c with lo:=h.lo}) (aop E l.ev {h with lo:=h.n} o.op)
     else jF E (fun v c=>Run E (lim E) cx Q (.opsD a q ps os (i+1) (gm i d (cd l.ev false o.op h c))::k) .normal (l.put o.dst v) c) (aop E l.ev h o.op))
   else Run E (lim E) cx Q (.opsD a q ps os (i+1) d::k) .normal (l.put o.dst (.tuple #[])) h):=by
 rw [yi]
 simp only [Bo (tB l o.op),stepD_iff]
 cases dX E q i o.op with
 | true=>
   rfl
 |false=>exact zL
theorem xH{E:Env}{K:Value->Hp->Prop}{f:FuncId}{args:List Value}{h:Hp}{Q:Value->Hp->Prop}(d:Ret E f args h Q)(e: ∀v c,Q v c->K v c):jF E K (some (.call f args,h)):=by
 obtain⟨v,c,a,b⟩:=d
 exact⟨.ret v,none,c,a,e v c b⟩
end Go.Ab

namespace Go.Ab
noncomputable section
abbrev Opt:=Option (Ex×Loc×Hp)

def getK{a:Type}(t:Tr a):Nat->Option a:=Tr.rec (motive:=fun _=>Nat->Option a) (fun _=>none)
 (fun x _ _ b c i=>Nat.rec (some x) (fun n _=>Bool.rec (c (n/2)) (b (n/2)) (Xc (n%2) 0)) i) t
def setK{a:Type}(t:Tr a):Nat->a->Tr a:=Tr.rec (motive:=fun _=>Nat->a->Tr a) (fun _ _=>.nil)
 (fun y l r b c i x=>Nat.rec (.node x l r) (fun n _=>Bool.rec (.node y l (c (n/2) x)) (.node y (b (n/2) x) r) (Xc (n%2) 0)) i) t
def fU(l:Loc)(d:Option Tmp)(v:Value):Loc:=Option.rec l (fun t=>Loc.mk (setK l.regs t v) l.dfs l.rc) d
def evK(l:Loc)(x:Operand):Value:=Operand.rec (motive:=fun _=>Loc->Value) (fun t l=>Option.rec (.tuple #[]) (fun v=>v) (getK l.regs t)) (fun v _=>Bool.rec poison v (cL v))
 (fun g _=>Bool.rec poison (.pointer (some ⟨g,0,none⟩)) (Xs g 16)) (fun f _=>.func (.func f) #[] #[]) x l
def exK(e:Ex):(Loc->Hp->Opt)->(Ex->Loc->Hp->Opt)->Loc->Hp->Opt:=Ex.rec (motive:=fun _=>(Loc->Hp->Opt)->(Ex->Loc->Hp->Opt)->Loc->Hp->Opt)
 (fun b _ l h=>b l h) (fun id _ a l h=>a (.exit id) l h) (fun _ a l h=>a .ret l h) (fun v _ a l h=>a (.pan v) l h) e
def dE(x:Opt)(a:Loc->Hp->Opt)(b:Ex->Loc->Hp->Opt):Opt:=Option.rec none (fun q=>Prod.rec (fun e c=>Prod.rec (fun l h=>exK e a b l h) c) q) x
def asInt:Value->Option (IntKind×Int)
 | .int k n=>some (k,n)
 |_=>none
abbrev BM:=IntKind->Int->IntKind->Int->Option Value->Option Value
def arK(f:IntKind->Int->Int->Option Value):BM:=fun k m a n _=>Bool.rec none (f k m n) (i7 k a)
def binI(op:BinOp):BM:=BinOp.rec (motive:=fun _=>BM)
 (add:=arK fun k x y=>some (.int k (an k (x+y)))) (sub:=arK fun k x y=>some (.int k (an k (x-y)))) (mul:=arK fun k x y=>some (.int k (an k (x*y))))
 (quo:=fun _ _ _ _ s=>s) (rem:=fun _ _ _ _ s=>s) (and:=fun _ _ _ _ s=>s) (or:=fun _ _ _ _ s=>s) (xor:=fun _ _ _ _ s=>s) (andNot:=fun _ _ _ _ s=>s) (shl:=fun _ _ _ _ s=>s) (shr:=fun _ _ _ _ s=>s)
 (eql:=arK fun _ x y=>some (.bool (gL x y))) (neq:=arK fun _ x y=>some (.bool (!gL x y))) (lss:=arK fun _ x y=>some (.bool (lC x y))) (leq:=arK fun _ x y=>some (.bool (!lC y x)))
 (gtr:=arK fun _ x y=>some (.bool (lC y x))) (geq:=arK fun _ x y=>some (.bool (!lC x y))) op
def binK(E:Env)(op:BinOp)(t:TypeId)(x y:Operand)(a b:Value):Option Value:=
 Option.rec (bH E op t x y a b) (fun p=>Option.rec (bH E op t x y a b) (fun q=>binI op p.1 p.2 q.1 q.2 (bH E op t x y a b)) (asInt b)) (asInt a)
abbrev OpM:=Env->Rec->Cx->Option Tmp->Loc->Hp->(Loc->Hp->Opt)->(Ex->Loc->Hp->Opt)->Opt
def jD(r:Option Value)(d:Option Tmp)(l:Loc)(h:Hp)(a:Loc->Hp->Opt):Opt:=Option.rec none (fun v=>a (fU l d v) h) r
def retHK(r:Option (Hp×Value))(d:Option Tmp)(l:Loc)(a:Loc->Hp->Opt):Opt:=Option.rec none (fun p=>Prod.rec (fun h v=>a (fU l d v) h) p) r
def sU(r:Option Hp)(d:Option Tmp)(l:Loc)(a:Loc->Hp->Opt):Opt:=Option.rec none (fun h=>a (fU l d (.tuple #[])) h) r
def da(op:Op):OpM:=fun E R a d l h b c=>dE (dL E R a ⟨d,op,0,"",#[],none⟩ l h) b c
def outK(o:Out):Option Tmp->Loc->Hp->(Loc->Hp->Opt)->(Ex->Loc->Hp->Opt)->Opt:=Out.rec (motive:=fun _=>Option Tmp->Loc->Hp->(Loc->Hp->Opt)->(Ex->Loc->Hp->Opt)->Opt)
 (fun v d l h a _=>a (fU l d v) h) (fun v _ l h _ b=>b (.pan v) l h) o
def resK(r:Option (Out×Option (Value×Bool)×Hp))(d:Option Tmp)(l:Loc)(a:Loc->Hp->Opt)(b:Ex->Loc->Hp->Opt):Opt:=Option.rec none (fun q=>Prod.rec (fun o c=>Prod.rec (fun _ h=>outK o d l h a b) c) q) r
def asFn:Value->Option (FuncId×Array Value×Array Value)
 | .func (.func g) a b=>some (g,a,b)
 |_=>none
def callK(c:Call):OpM:=fun E R e d l h a b=>Callee.rec (motive:=fun _=>Opt)
 (fun f=>Option.rec (da (.call c) E R e d l h a b) (fun p=>resK (R.call p.1 (p.2.1.toList++c.args.toList.map (evK l)++p.2.2.toList) none h) d l a b) (asFn (evK l f)))
 (fun _ _=>da (.call c) E R e d l h a b) (fun _=>da (.call c) E R e d l h a b) c.callee
def opK(op:Op):OpM:=Op.rec (motive:=fun _=>OpM)
 (move:=fun x _ _ _ d l h j _=>j (fU l d (evK l x)) h)
 (assign:=fun x _ _ _ d l h j _=>j (fU l d (evK l x)) h)
 (pick:=fun c a b=>da (.pick c a b))
 (alloc:=fun e=>da (.alloc e))
 (box:=fun e v=>da (.box e v))
 (build:=fun t p=>da (.build t p))
 (buildSlice:=fun t n p=>da (.buildSlice t n p))
 (insert:=fun t m k v=>da (.insert t m k v))
 (load:=fun t a E _ _ d l h j _=>jD (eI E h t (evK l a)) d l h j)
 (store:=fun t a v E _ _ d l h j _=>sU (iQ E h t (evK l a) (evK l v)) d l j)
 (ready:=fun g=>da (.ready g))
 (waits:=fun g=>da (.waits g))
 (nilCheck:=fun x=>da (.nilCheck x))
 (binOp:=fun op t x y u E _ _ d l h j _=>jD (binK E op t x y (evK l x) (evK l y)) d l h j)
 (unOp:=fun op t x E _ _ d l h j _=>jD (unP op (evK l x)) d l h j)
 (convert:=fun s t x=>da (.convert s t x))
 (sliceToArrayPointer:=fun t x=>da (.sliceToArrayPointer t x))
 (makeInterface:=fun t x=>da (.makeInterface t x))
 (makeFunc:=fun f a b=>da (.makeFunc f a b))
 (makeMap:=fun t r=>da (.makeMap t r))
 (makeChan:=fun t s=>da (.makeChan t s))
 (makeSlice:=fun t a c=>da (.makeSlice t a c))
 (slice:=fun t x a b c=>da (.slice t x a b c))
 (fieldAddr:=fun s x i E _ _ d l h j _=>jD (aA E s (evK l x) i) d l h j)
 (field:=fun t x i E _ _ d l h j _=>jD (aP E t (evK l x) i) d l h j)
 (indexAddr:=fun t x i E _ _ d l h j _=>jD (eh E t (evK l x) (evK l i)) d l h j)
 (index:=fun t x i E _ _ d l h j _=>jD (nZ E t (evK l x) (evK l i)) d l h j)
 (lookup:=fun t m k o E _ _ d l h j _=>jD (cm E h t (evK l m) (evK l k) o) d l h j)
 (mapUpdate:=fun t m k v E _ _ d l h j _=>sU (dD E h t (evK l m) (evK l k) (evK l v)) d l j)
 (mapEntry:=fun t m k E _ _ d l h j _=>retHK (ip E h t (evK l m) (evK l k)) d l j)
 (entryStore:=fun t m s v=>da (.entryStore t m s v))
 (range:=fun t x=>da (.range t x))
 (next:=fun i s=>da (.next i s))
 (entry:=fun i=>da (.entry i))
 (typeAssert:=fun x s t o=>da (.typeAssert x s t o))
 (extract:=fun t i=>da (.extract t i))
 (call:=fun c=>callK c)
 (go:=fun c=>da (.go c))
 (defer:=fun c=>da (.defer c))
 (panic:=fun x=>da (.panic x))
 (send:=fun c x=>da (.send c x))
 (recv:=fun t c o=>da (.recv t c o))
 (select:=fun q b=>da (.select q b)) op
def qO(ops:List Oper)(l:Loc)(o:Oper):Option Bool:=Option.rec (some true) (fun _=>bW ops l.regs o) o.guard
def opsK(E:Env)(R:Rec)(cx:Cx)(ops:List Oper)(c:Loc->Hp->Opt)(d:Ex->Loc->Hp->Opt)(os:List Oper):Loc->Hp->Opt:=List.rec (motive:=fun _=>Loc->Hp->Opt) c
 (fun o _ a l h=>Option.rec none (fun b=>Bool.rec (a (fU l o.dst (.tuple #[])) h) (opK o.op E R cx o.dst l h a d) b) (qO ops l o)) os
def qG(op:Op):Bool:=Op.rec (motive:=fun _=>Bool)
 (move:=fun _=>true) (assign:=fun _=>true) (pick:=fun _ _ _=>false) (alloc:=fun _=>false) (box:=fun _ _=>false) (build:=fun _ _=>false) (buildSlice:=fun _ _ _=>false)
 (insert:=fun _ _ _ _=>false) (load:=fun _ _=>true) (store:=fun _ _ _=>true) (ready:=fun _=>false) (waits:=fun _=>false) (nilCheck:=fun _=>false) (binOp:=fun _ _ _ _ _=>true)
 (unOp:=fun _ _ _=>true) (convert:=fun _ _ _=>false) (sliceToArrayPointer:=fun _ _=>false) (makeInterface:=fun _ _=>false) (makeFunc:=fun _ _ _=>false) (makeMap:=fun _ _=>false)
 (makeChan:=fun _ _=>false) (makeSlice:=fun _ _ _=>false) (slice:=fun _ _ _ _ _=>false) (fieldAddr:=fun _ _ _=>true) (field:=fun _ _ _=>true) (indexAddr:=fun _ _ _=>true) (index:=fun _ _ _=>true)
 (lookup:=fun _ _ _ _=>true) (mapUpdate:=fun _ _ _ _=>true) (mapEntry:=fun _ _ _=>true) (entryStore:=fun _ _ _ _=>false) (range:=fun _ _=>false) (next:=fun _ _=>false) (entry:=fun _=>false)
 (typeAssert:=fun _ _ _ _=>false) (extract:=fun _ _=>false) (call:=fun _=>false) (go:=fun _=>false) (defer:=fun _=>false) (panic:=fun _=>false) (send:=fun _ _=>false) (recv:=fun _ _ _=>false)
 (select:=fun _ _=>false) op
def rx(E:Env)(q i:Nat)(op:Op):Bool:=Bool.rec (Bool.rec false (Xa 3 (cls E op)) (Nat.testBit q i)) false (Xc q 0)
def outDK(o:Out):(Value->Hp->Opt)->Hp->Opt:=Out.rec (motive:=fun _=>(Value->Hp->Opt)->Hp->Opt) (fun v k h=>k v h) (fun _ _ _=>none) o
def resDK(r:Option (Out×Option (Value×Bool)×Hp))(k:Value->Hp->Opt):Opt:=Option.rec none (fun q=>Prod.rec (fun o a=>Prod.rec (fun _ h=>outDK o k h) a) q) r
def kH(E:Env)(R:Rec)(a:Bool)(o:Oper)(l:Loc)(h:Hp)(k:Value->Hp->Opt):Opt:=Option.rec none (fun p=>k p.1 p.2) (cH E R l.ev a o h)
def vS(h:Hp)(k:Value->Hp->Opt)(v:Value)(a:Hp):Opt:=Bool.rec none (k v {a with lo:=h.lo}) (Xa h.n a.lo)
def callDK(E:Env)(R:Rec)(a:Bool)(o:Oper)(c:Call)(l:Loc)(h:Hp)(k:Value->Hp->Opt):Opt:=Callee.rec (motive:=fun _=>Opt)
 (fun f=>Option.rec (kH E R a o l h k) (fun p=>Bool.rec (resDK (R.call p.1 (p.2.1.toList++c.args.toList.map (evK l)++p.2.2.toList) none h) k)
   (resDK (R.call p.1 (p.2.1.toList++c.args.toList.map (evK l)++p.2.2.toList) none {h with lo:=h.n}) (vS h k)) a) (asFn (evK l f)))
 (fun _ _=>kH E R a o l h k) (fun _=>kH E R a o l h k) c.callee
def asCall(op:Op):Option Call:=match op with
 | .call c=>some c
 |_=>none
def uF(E:Env)(R:Rec)(a:Bool)(o:Oper)(l:Loc)(h:Hp)(k:Value->Hp->Opt):Opt:=Option.rec (kH E R a o l h k) (fun c=>callDK E R a o c l h k) (asCall o.op)
def uS(l:Loc)(op:Op):Option Tch:=match touch (l.evD (tmpsOf op.operands.toList)) op with
 |none=>none
 |some b=>some (.blk b)
abbrev DM:=Nat->Loc->Hp->List (Nat×Tch)->Opt
def v7 (E:Env) (R:Rec) (cx:Cx) (q:Nat) (o:Oper) (b:DM) (i:Nat) (l:Loc) (h:Hp) (c:List (Nat×Tch)):Opt:=
 Bool.rec (uF E R (rx E q i o.op) o l h fun v a=>b (i+1) (fU l o.dst v) a (gm i c (cd (l.evD (tmpsOf o.op.operands.toList)) (rx E q i o.op) o.op h a)))
  (Bool.rec (opK o.op E R cx o.dst l h (fun d a=>b (i+1) d a (gm i c (uS l o.op))) (fun _ _ _=>none))
    (kH E R true o l h fun v a=>b (i+1) (fU l o.dst v) a (gm i c (uS l o.op))) (rx E q i o.op)) (qG o.op)
def oL(E:Env)(R:Rec)(cx:Cx)(ops:List Oper)(q:Nat)(a:DM)(os:List Oper):DM:=List.rec (motive:=fun _=>DM) a
 (fun o _ c i l h d=>Option.rec none (fun b=>Bool.rec (c (i+1) (fU l o.dst (.tuple #[])) h d) (v7 E R cx q o c i l h d) b) (qO ops l o)) os
def drawKo(E:Env)(R:Rec)(cx:Cx)(ops:List Oper)(l:Loc)(h:Hp)(a:Loc->Hp->Opt):Opt:=
 Option.rec none (fun p=>oL E R cx ops p.1 (fun _ l h b=>Bool.rec none (a l h) (cC b p.2)) ops 0 l h []) (jR E ops)
def drawK(E:Env)(R:Rec)(cx:Cx)(ops:List Oper)(l:Loc)(h:Hp)(a:Loc->Hp->Opt):Opt:=drawKo E R cx (bG ops) l h a

abbrev CodeM:=Cx->Code->Loc->Hp->(Loc->Hp->Opt)->(Ex->Loc->Hp->Opt)->Opt
def asBool:Value->Option Bool
 | .bool b=>some b
 |_=>none
def blkK(e:Ex):Nat->(Loc->Hp->Opt)->(Ex->Loc->Hp->Opt)->Loc->Hp->Opt:=Ex.rec (motive:=fun _=>Nat->(Loc->Hp->Opt)->(Ex->Loc->Hp->Opt)->Loc->Hp->Opt)
 (fun _ b _ l h=>b l h) (fun i id b a l h=>Bool.rec (a (.exit i) l h) (b l h) (Xc i id)) (fun _ _ a l h=>a .ret l h) (fun v _ _ a l h=>a (.pan v) l h) e
def ni(E:Env)(R:Rec)(M:CodeM)(cx:Cx)(c:Code):Loc->Hp->(Loc->Hp->Opt)->(Ex->Loc->Hp->Opt)->Opt:=Code.rec (motive:=fun _=>Loc->Hp->(Loc->Hp->Opt)->(Ex->Loc->Hp->Opt)->Opt)
 (skip:=fun l h a _=>a l h)
 (region:=fun _ g k l h a d=>Bool.rec (opsK E R cx g.toList a d g.toList l h) (Bool.rec (drawK E R cx g.toList l h a) (dE (cutD E R cx g.toList l h) a d) (E.cut cx.fn)) k)
 (seq:=fun _ _ i j l h a d=>i l h (fun l h=>j l h a d) d)
 (cond:=fun c _ _ i j l h a d=>Option.rec none (fun t=>Bool.rec (j l h a d) (i l h a d) t) (asBool (evK l c)))
 (block:=fun id _ m l h a d=>m l h a (fun e l h=>blkK e id a d l h))
 (loop:=fun b m l h a d=>m l h (fun l h=>M cx (.loop b) l h a d) d)
 (rangeFunc:=fun f p o n _ _ l h a d=>dE (io R cx (evK l f) p o n l h) a d)
 (exit:=fun id l h _ d=>d (.exit id) l h)
 (scope:=fun _ m l h a d=>m l h a d)
 (label:=fun _ l h a _=>a l h)
 (goto:=fun _ _ _ _ _=>none)
 (ret:=fun l h _ d=>d .ret l h)
 (refuse:=fun _ _ _ _ _=>none) c
abbrev oz:=Option (Out×Option (Value×Bool)×Hp)
def uw(E:Env)(R:Rec)(b:Func)(l:Loc)(c:Hp):oz:=match bT R l.dfs none c with
 | some (none,a)=>match aY E l.regs a b.results.toList with
   |none=>none
   |some d=>some (.ret (ae d),l.rc,a)
 |_=>none
def doneK(E:Env)(R:Rec)(a:Func)(l:Loc)(h:Hp):oz:=List.rec (motive:=fun _=>oz)
 (Option.rec none (fun b=>some (.ret (ae b),l.rc,h)) (aY E l.regs h a.results.toList)) (fun _ _ _=>uw E R a l h) l.dfs
def slowPan(E:Env)(R:Rec)(b:Func)(v:Value)(l:Loc)(c:Hp):oz:=match bT R l.dfs (some v) c with
 |none=>none
 |some (some v,a)=>some (.pan v,l.rc,a)
 | some (none,a)=>match aY E l.regs a b.results.toList with
   |none=>none
   |some d=>some (.ret (ae d),l.rc,a)
def exLeave(e:Ex):Env->Rec->Func->Loc->Hp->oz:=Ex.rec (motive:=fun _=>Env->Rec->Func->Loc->Hp->oz) doneK (fun _ _ _ _ _ _=>none) doneK (fun v E R a l h=>slowPan E R a v l h) e
def leaveK(E:Env)(R:Rec)(a:Func)(r:Opt):oz:=Option.rec none (fun q=>Prod.rec (fun e b=>Prod.rec (fun l h=>exLeave e E R a l h) b) q) r
def wg(E:Env)(R:Rec)(f:FuncId)(args:List Value)(rc:Option (Value×Bool))(h:Hp)(a:Func)(body:Code):oz:=
 Bool.rec none (leaveK E R a (R.code ⟨f,a.ntmps,none⟩ body ⟨(Tr.blank (.tuple #[]) a.ntmps a.ntmps).setAll 0 args,[],rc⟩ h)) (Xa args.length a.ntmps)
def callBK(E:Env)(R:Rec)(f:FuncId)(args:List Value)(rc:Option (Value×Bool))(h:Hp):oz:=
 Option.rec none (fun b=>Option.rec none (fun a=>wg E R f args rc h b a) b.body) (E.fn f)
def uQ(E:Env)(R:Rec)(f:FuncId)(args:List Value)(rc:Option (Value×Bool))(h:Hp):oz:=
 Option.rec (callBK E R f args rc h) (fun v=>Option.rec (some (.ret v,none,h)) (fun _=>none) rc) (E.orc f args)
structure RK where
 call:FuncId->List Value->Option (Value×Bool)->Hp->oz
 code:CodeM
def RK.rec'(K:RK):Rec:=⟨K.call,fun a c l h=>K.code a c l h (fun l h=>some (.normal,l,h)) (fun e l h=>some (e,l,h))⟩
def botK:RK:=⟨fun _ _ _ _=>none,fun _ _ _ _ _ _=>none⟩
def nextRK(E:Env)(K:RK):RK:=⟨fun f a b h=>uQ E K.rec' f a b h,fun d c l h e g=>ni E K.rec' K.code d c l h e g⟩
def runK(E:Env)(n:Nat):RK:=Nat.rec botK (fun _ K=>nextRK E K) n
def envK(a:Tr Func)(b:Tr TypeInfo)(c:List Nat):Env:={fn:=fun f=>getK a f,ty:=fun t=>getK b t,eqok:=fun t=>mg t c}
end
end Go.Ab

namespace Go.Ab
noncomputable section
theorem getK_eq{a:Type}(t:Tr a)(i:Nat):getK t i=t.get i:=rfl
theorem setK_eq{a:Type}(t:Tr a)(i:Nat)(x:a):setK t i x=t.set i x:=rfl

theorem mJ(l:Loc)(d:Option Tmp)(v:Value):fU l d v=l.put d v:=by
 cases d with
 |none=>rfl
 |some t=>show Loc.mk (setK l.regs t v) l.dfs l.rc=_;rw [setK_eq];rfl
theorem fC(l:Loc):evK l=l.ev:=by
 funext x
 cases x with
 | tmp t=>
   show Option.rec (motive:=fun _=>Value) _ _ (getK l.regs t)=_
   rw [getK_eq]
   simp only [Loc.ev]
   cases l.regs.get t<;>rfl
 |const v=>simp only [Loc.ev];show Bool.rec (motive:=fun _=>Value) poison v (cL v)=_;cases cL v<;>rfl
 |global g=>simp only [Loc.ev];show Bool.rec (motive:=fun _=>Value) poison _ (Xs g 16)=_;cases Xs g 16<;>rfl
 |func f=>rfl

theorem bind2_id(x:Opt):dE x (fun l h=>some (.normal,l,h)) (fun e l h=>some (e,l,h))=x:=by
 cases x with
 |none=>rfl
 |some q=>obtain⟨e,l,h⟩:=q;cases e<;>rfl
theorem qU(x:Opt)(c:Loc->Hp->Opt)(a1:Ex->Loc->Hp->Opt)(d:Loc->Hp->Opt)(a:Ex->Loc->Hp->Opt)(b: ∀e l h,e≠ .normal->a1 e l h=a e l h):
 dE x (fun l h=>dE (c l h) d a) a1=dE (match x with
  |some (.normal,l,h)=>c l h
  |r=>r) d a:=by
 cases x with
 |none=>rfl
 | some q=>
   obtain⟨e,l,h⟩:=q
   cases e with
   |normal=>rfl
   |exit i=>exact b _ _ _ (by simp)
   |ret=>exact b _ _ _ (by simp)
   |pan v=>exact b _ _ _ (by simp)

theorem binK_eq(E:Env)(op:BinOp)(t:TypeId)(x y:Operand)(a b:Value):binK E op t x y a b=bH E op t x y a b:=by
 cases a<;>(try rfl)
 cases b<;>(try rfl)
 rename_i k m c n
 cases op<;>(try rfl)
 all_goals (show Bool.rec (motive:=fun _=>Option Value) none _ (i7 k c)=(bif i7 k c then _ else none);cases i7 k c<;>rfl)

theorem retK_eq(r:Option Value)(o:Oper)(l:Loc)(h:Hp)(E:Env)(R:Rec)(a:Loc->Hp->Opt)(b:Ex->Loc->Hp->Opt):jD r o.dst l h a=dE (nG o l (cR E R (cB h r))) a b:=by
 cases r with
 |none=>rfl
 |some v=>show a (fU l o.dst v) h=a (l.put o.dst v) h;rw [mJ]
theorem retHK_eq(r:Option (Hp×Value))(o:Oper)(l:Loc)(E:Env)(R:Rec)(a:Loc->Hp->Opt)(b:Ex->Loc->Hp->Opt):retHK r o.dst l a=dE (nG o l (cR E R (c5 r))) a b:=by
 cases r with
 |none=>rfl
 |some p=>obtain⟨h,v⟩:=p;show a (fU l o.dst v) h=a (l.put o.dst v) h;rw [mJ]
theorem retUK_eq(r:Option Hp)(o:Oper)(l:Loc)(E:Env)(R:Rec)(a:Loc->Hp->Opt)(b:Ex->Loc->Hp->Opt):sU r o.dst l a=dE (nG o l (cR E R (ep r))) a b:=by
 cases r with
 |none=>rfl
 |some h=>show a (fU l o.dst (.tuple #[])) h=a (l.put o.dst (.tuple #[])) h;rw [mJ]
theorem resK_eq(R:Rec)(g:FuncId)(args:List Value)(o:Oper)(l:Loc)(h:Hp)(E:Env)(a:Loc->Hp->Opt)(b:Ex->Loc->Hp->Opt):
 resK (R.call g args none h) o.dst l a b=dE (nG o l (cR E R (some (.call g args,h)))) a b:=by
 simp only [cR]
 cases R.call g args none h with
 |none=>rfl
 | some q=>
   obtain⟨x,d,c⟩:=q
   cases x with
   |ret v=>show a (fU l o.dst v) c=a (l.put o.dst v) c;rw [mJ]
   |pan v=>rfl
theorem lO{E:Env}{R:Rec}{cx:Cx}{o:Oper}{l:Loc}{h:Hp}{x:Option (dl×Hp)}(b:aop E l.ev h o.op=x)(c: ∀a,x≠some (.recov,a))(e: ∀d a,x≠some (.defer d,a)):dL E R cx o l h=nG o l (cR E R x):=by
 unfold dL
 rw [b]
 split
 . exact absurd rfl (c _)
 . exact absurd rfl (e _ _)
 . rfl
theorem uB{h:Hp}{r:Option Value}:(∀a,cB h r≠some (.recov,a))/\ ∀d a,cB h r≠some (.defer d,a):=by cases r<;>exact⟨by intros;simp [cB],by intros;simp [cB]⟩
theorem uf{r:Option (Hp×Value)}:(∀a,c5 r≠some (.recov,a))/\ ∀d a,c5 r≠some (.defer d,a):=by cases r<;>exact⟨by intros;simp [c5],by intros;simp [c5]⟩
theorem ua{r:Option Hp}:(∀a,ep r≠some (.recov,a))/\ ∀d a,ep r≠some (.defer d,a):=by cases r<;>exact⟨by intros;simp [ep],by intros;simp [ep]⟩
theorem opK_eq(E:Env)(R:Rec)(cx:Cx)(o:Oper)(l:Loc)(h:Hp)(q:Loc->Hp->Opt)(s:Ex->Loc->Hp->Opt):opK o.op E R cx o.dst l h q s=dE (dL E R cx o l h) q s:=by
 have w: ∀r,aop E l.ev h o.op=cB h r->jD r o.dst l h q=dE (dL E R cx o l h) q s:=fun r A=>by rw [lO A uB.1 uB.2];exact retK_eq r o l h E R q s
 have B: ∀r,aop E l.ev h o.op=c5 r->retHK r o.dst l q=dE (dL E R cx o l h) q s:=fun r A=>by rw [lO A uf.1 uf.2];exact retHK_eq r o l E R q s
 have C: ∀r,aop E l.ev h o.op=ep r->sU r o.dst l q=dE (dL E R cx o l h) q s:=fun r A=>by rw [lO A ua.1 ua.2];exact retUK_eq r o l E R q s
 obtain⟨j,op,D,pos,z,guard⟩:=o
 simp only []at w B C⊢
 cases op
 case move x=>
  have:=w (some (l.ev x)) rfl
  rw [<-this]
  show q (fU l j (evK l x)) h=q (fU l j (l.ev x)) h
  rw [fC]
 case assign x=>
  have:=w (some (l.ev x)) rfl
  rw [<-this]
  show q (fU l j (evK l x)) h=q (fU l j (l.ev x)) h
  rw [fC]
 case load t a=>rw [<-w _ rfl];show jD (eI E h t (evK l a)) j l h q=_;rw [fC]
 case store t a v=>rw [<-C _ rfl];show sU (iQ E h t (evK l a) (evK l v)) j l q=_;rw [fC]
 case binOp b t x y u=>rw [<-w (bH E b t x y (l.ev x) (l.ev y)) rfl];show jD (binK E b t x y (evK l x) (evK l y)) j l h q=_;rw [fC,binK_eq]
 case unOp b t x=>rw [<-w (unP b (l.ev x)) rfl];show jD (unP b (evK l x)) j l h q=_;rw [fC]
 case fieldAddr t x i=>rw [<-w (aA E t (l.ev x) i) rfl];show jD (aA E t (evK l x) i) j l h q=_;rw [fC]
 case field t x i=>rw [<-w (aP E t (l.ev x) i) rfl];show jD (aP E t (evK l x) i) j l h q=_;rw [fC]
 case indexAddr t x i=>rw [<-w (eh E t (l.ev x) (l.ev i)) rfl];show jD (eh E t (evK l x) (evK l i)) j l h q=_;rw [fC]
 case index t x i=>rw [<-w (nZ E t (l.ev x) (l.ev i)) rfl];show jD (nZ E t (evK l x) (evK l i)) j l h q=_;rw [fC]
 case lookup t m k b=>rw [<-w _ rfl];show jD (cm E h t (evK l m) (evK l k) b) j l h q=_;rw [fC]
 case mapUpdate t m k v=>rw [<-C _ rfl];show sU (dD E h t (evK l m) (evK l k) (evK l v)) j l q=_;rw [fC]
 case mapEntry t m k=>rw [<-B _ rfl];show retHK (ip E h t (evK l m) (evK l k)) j l q=_;rw [fC]
 case call c=>
  show callK c E R cx j l h q s=_
  unfold callK
  cases F:c.callee with
  |invoke r n=>rfl
  |builtin b=>rfl
  | value f=>
    show Option.rec (motive:=fun _=>Opt) (da (.call c) E R cx j l h q s) _ (asFn (evK l f))=_
    rw [fC]
    cases hf:asFn (l.ev f)with
    |none=>rfl
    | some p=>
      obtain⟨g,a,b⟩:=p
      have B:l.ev f=.func (.func g) a b:=by
       unfold asFn at hf
       split at hf
       . rename_i G;cases hf;exact G
       . cases hf
      have A:aop E l.ev h (.call c)=some (.call g (a.toList++c.args.toList.map l.ev++b.toList),h):=by simp only [aop,F,B,target]
      rw [lO (o:=⟨j,.call c,D,pos,z,guard⟩) A (by intro H e;cases e) (by intro d H e;cases e)]
      exact resK_eq R g _ ⟨j,.call c,D,pos,z,guard⟩ l h E q s
 all_goals rfl

theorem w7(ops:List Oper)(l:Loc)(o:Oper):qO ops l o=bW ops l.regs o:=by
 unfold qO
 cases a:o.guard with
 |none=>unfold bW;rw [a]
 |some q=>rfl
theorem opsK_eq(E:Env)(R:Rec)(cx:Cx)(ops:List Oper)(c:Loc->Hp->Opt)(a:Ex->Loc->Hp->Opt): ∀(os:List Oper) (l:Loc) (h:Hp),opsK E R cx ops c a os l h=dE (ir E R cx ops os l h) c a
 | [],l,h=>rfl
 | o ::os,l,h=>by
   have d:=opsK_eq E R cx ops c a os
   show Option.rec (motive:=fun _=>Opt) none (fun b=>Bool.rec (opsK E R cx ops c a os (fU l o.dst (.tuple #[])) h) (opK o.op E R cx o.dst l h (opsK E R cx ops c a os) a) b) (qO ops l o)=_
   rw [w7]
   simp only [ir]
   cases bW ops l.regs o with
   |none=>rfl
   | some b=>
     cases b with
     |false=>show opsK E R cx ops c a os (fU l o.dst (.tuple #[])) h=_;rw [d,mJ]
     | true=>
       show opK o.op E R cx o.dst l h (opsK E R cx ops c a os) a=_
       rw [opK_eq,show opsK E R cx ops c a os=fun l h=>dE (ir E R cx ops os l h) c a from funext fun l=>funext fun h=>d l h]
       rw [qU _ _ _ _ _ (fun _ _ _ _=>rfl)]
       simp only []
       cases dL E R cx o l h with
       |none=>rfl
       |some q=>obtain⟨e,f,g⟩:=q;cases e<;>rfl

end
end Go.Ab

namespace Go.Ab
noncomputable section

theorem xc(E:Env)(R:Rec)(l:Loc)(a:Bool)(o:Oper)(h:Hp):cH E R (l.evD (tmpsOf o.op.operands.toList)) a o h=cH E R l.ev a o h:=by
 unfold cH
 rw [tv (tB l o.op),tv (tB l o.op)]
theorem fast_step{E:Env}{R:Rec}{cx:Cx}{o:Oper}{l:Loc}{h:Hp}(hf:qG o.op=true){K:Value->Hp->Opt}:
 dE (dL E R cx o l h) (fun l' a=>none) (fun _ _ _=>none)=none/\
 ∀ c:Loc->Hp->Opt,dE (dL E R cx o l h) c (fun _ _ _=>none)=(match cH E R l.ev false o h with
   |none=>none
   |some (v,a)=>c (l.put o.dst v) a):=by
 have e: ∀x,aop E l.ev h o.op=x->((∃f r,x=cB f r)\/(∃r,x=c5 r)\/ ∃r,x=ep r)-> ∀c:Loc->Hp->Opt,dE (dL E R cx o l h) c (fun _ _ _=>none)=(match cH E R l.ev false o h with
  |none=>none
  |some (v,a)=>c (l.put o.dst v) a):=by
  intro x i j c
  have k:(∀a,x≠some (.recov,a))/\ ∀d a,x≠some (.defer d,a):=by
   rcases j with⟨f,r,rfl⟩|⟨r,rfl⟩|⟨r,rfl⟩
   . exact uB
   . exact uf
   . exact ua
  rw [lO i k.1 k.2]
  simp only [cH,cond_false,i]
  rcases j with⟨f,r,rfl⟩|⟨r,rfl⟩|⟨r,rfl⟩<;>cases r<;>rfl
 have b:(∃f r,aop E l.ev h o.op=cB f r)\/(∃r,aop E l.ev h o.op=c5 r)\/ ∃r,aop E l.ev h o.op=ep r:=by
  obtain⟨m,op,n,pos,g,guard⟩:=o
  simp only []at hf⊢
  cases op<;>(try (cases hf;done))
  all_goals first
   |exact .inl ⟨h,some (l.ev _),rfl⟩
   |exact .inl ⟨h,_,rfl⟩
   |exact .inr (.inl ⟨_,rfl⟩)
   |exact .inr (.inr ⟨_,rfl⟩)
 refine⟨?_,e _ rfl b⟩
 rw [e _ rfl b]
 cases cH E R l.ev false o h<;>rfl
theorem uc(E:Env)(q i:Nat)(op:Op):rx E q i op=dX E q i op:=by
 unfold rx dX
 cases a:Xc q 0 with
 | true=>
   have:q=0:=Xd a
   subst this
   simp
 |false=>cases Nat.testBit q i<;>rfl
theorem elseDK_eq (E:Env) (R:Rec) (d:Bool) (o:Oper) (l:Loc) (h:Hp) (k:Value->Hp->Opt):uF E R d o l h k=kH E R d o l h k:=by
 unfold uF
 cases e:asCall o.op with
 |none=>rfl
 | some c=>
   show callDK E R d o c l h k=_
   have t:o.op=.call c:=by
    unfold asCall at e
    split at e
    . rename_i i;cases e;exact i
    . cases e
   unfold callDK
   cases j:c.callee with
   |invoke r n=>rfl
   |builtin b=>rfl
   | value f =>
     show Option.rec (motive:=fun _=>Opt) (kH E R d o l h k) _ (asFn (evK l f))=_
     rw [fC]
     cases hf:asFn (l.ev f)with
     |none=>rfl
     | some p=>
       obtain⟨g,a,b⟩:=p
       have u:l.ev f=.func (.func g) a b:=by
        unfold asFn at hf
        split at hf
        . rename_i i;cases hf;exact i
        . cases hf
       have s: ∀h,aop E l.ev h o.op=some (.call g (a.toList++c.args.toList.map l.ev++b.toList),h):=by intro h;rw [t];simp only [aop,j,u,target]
       unfold kH cH
       cases d with
       | false=>
         simp only [cond_false,s,cR]
         show resDK (R.call g (a.toList++c.args.toList.map l.ev++b.toList) none h) k=_
         cases R.call g (a.toList++c.args.toList.map l.ev++b.toList) none h with
         |none=>rfl
         |some q=>obtain⟨x,w,m⟩:=q;cases x<;>rfl
       | true=>
         simp only [cond_true,s,cR]
         show resDK (R.call g (a.toList++c.args.toList.map l.ev++b.toList) none {h with lo:=h.n}) (vS h k)=_
         cases R.call g (a.toList++c.args.toList.map l.ev++b.toList) none {h with lo:=h.n}with
         |none=>rfl
         | some q=>
           obtain⟨x,w,m⟩:=q
           cases x with
           |pan v=>rfl
           | ret v=>
             show vS h k v m=_
             simp only [vS]
             cases Xa h.n m.lo<;>rfl
theorem A0{op:Op}(h:qG op=true):dA op=false:=by
 cases op<;>first|rfl|exact absurd h (by simp [qG])
theorem yE (E:Env) (R:Rec) (cx:Cx) (ops:List Oper) (q:Nat) (K:Loc->Hp->List (Nat×Tch)->Opt): ∀(os:List Oper) (i:Nat) (l:Loc) (h:Hp) (a:List (Nat×Tch)),
 oL E R cx ops q (fun _ l h a=>K l h a) os i l h a=(match bw E R ops q os i l h a with
  |none=>none
  |some (l',c,e)=>K l' c e)
 | [],i,l,h,a=>rfl
 | o :: os,i,l,h,a=>by
   have j:=yE E R cx ops q K os
   show Option.rec (motive:=fun _=>Opt) none (fun b=>Bool.rec (oL E R cx ops q (fun _ l h a=>K l h a) os (i+1) (fU l o.dst (.tuple #[])) h a) (v7 E R cx q o (oL E R cx ops q (fun _ l h a=>K l h a) os) i l h a) b) (qO ops l o)=_
   rw [w7]
   simp only [bw]
   cases bW ops l.regs o with
   |none=>rfl
   | some b=>
     cases b with
     |false=>show oL E R cx ops q (fun _ l h a=>K l h a) os (i+1) (fU l o.dst (.tuple #[])) h a=_;rw [j,mJ]
     | true=>
       show v7 E R cx q o (oL E R cx ops q (fun _ l h a=>K l h a) os) i l h a=_
       simp only []
       have d: ∀g,dX E q i o.op=g->kH E R g o l h (fun v c=>oL E R cx ops q (fun _ l h a=>K l h a) os (i+1) (fU l o.dst v) c (gm i a (cd (l.evD (tmpsOf o.op.operands.toList)) g o.op h c)))=
        (match(match cH E R (l.evD (tmpsOf o.op.operands.toList)) (dX E q i o.op) o h with
          |none=>none
          |some (v,c)=>bw E R ops q os (i+1) (l.put o.dst v) c (gm i a (cd (l.evD (tmpsOf o.op.operands.toList)) (dX E q i o.op) o.op h c)))with
          |none=>none
          |some (l',c,e)=>K l' c e):=by
        intro g f
        rw [f,xc]
        unfold kH
        cases cH E R l.ev g o h with
        |none=>rfl
        |some p=>obtain⟨v,c⟩:=p;show oL E R cx ops q _ os (i+1) (fU l o.dst v) c _=_;rw [j,mJ]
       unfold v7
       cases hf:qG o.op with
       | false=>
         show uF E R (rx E q i o.op) o l h _=_
         rw [elseDK_eq,uc]
         exact d _ rfl
       | true=>
         have m: ∀b (h c:Hp),cd (l.evD (tmpsOf o.op.operands.toList)) b o.op h c=uS l o.op:=by
          intro b h c
          have k:dY o.op=false:=by cases n:o.op<;>first|rfl|(rw [n]at hf;simp [qG]at hf)
          unfold cd uS iN
          rw [A0 hf,k];rfl
         simp only [m]at d⊢
         cases f:rx E q i o.op with
         | true=>
           rw [uc]at f
           exact d true f
         | false=>
           rw [uc]at f
           show opK o.op E R cx o.dst l h _ _=_
           rw [opK_eq,(fast_step (R:=R) hf (K:=fun _ _=>none)).2,xc,f]
           cases cH E R l.ev false o h with
           |none=>rfl
           |some p=>obtain⟨v,c⟩:=p;simp only [];rw [j]
theorem codeK_eq(E:Env)(R:Rec)(M:CodeM)(D: ∀cx c l h d g,M cx c l h d g=dE (R.code cx c l h) d g)(cx:Cx): ∀(c:Code) (l:Loc) (h:Hp) (d:Loc->Hp->Opt) (g:Ex->Loc->Hp->Opt),
 ni E R M cx c l h d g=dE (aE E R cx c l h) d g:=by
 intro c
 induction c with
 |skip=>intro l h d g;rfl
 |label n=>intro l h d g;rfl
 | region id j s=>
   intro l h d g
   cases s with
   |false=>exact opsK_eq E R cx j.toList d g j.toList l h
   | true=>
     show(Bool.rec (motive:=fun _=>Opt) (drawK E R cx j.toList l h d) (dE (cutD E R cx j.toList l h) d g) (E.cut cx.fn):Opt)=_
     simp only [aE,cond_true]
     cases E.cut cx.fn with
     |true=>rfl
     |false=>
     show drawK E R cx j.toList l h d=_
     simp only [cond_false]
     unfold drawK drawKo
     generalize bG j.toList=r
     cases jR E r with
     |none=>rfl
     | some p=>
       obtain⟨q,u⟩:=p
       show oL E R cx r q (fun _ l h B=>Bool.rec none (d l h) (cC B u)) r 0 l h []=_
       rw [yE E R cx r q (fun l h B=>Bool.rec none (d l h) (cC B u))]
       simp only []
       cases bw E R r q r 0 l h []with
       |none=>rfl
       | some x=>
         obtain⟨a,b,c⟩:=x
         simp only []
         cases cC c u<;>rfl
 | seq a b k o=>
   intro l h d g
   show ni E R M cx a l h (fun l h=>ni E R M cx b l h d g) g=_
   rw [k,show(fun l h=>ni E R M cx b l h d g)=fun l h=>dE (aE E R cx b l h) d g from funext fun l=>funext fun h=>o l h d g]
   rw [qU _ _ _ _ _ (fun _ _ _ _=>rfl)]
   simp only [aE]
   cases aE E R cx a l h with
   |none=>rfl
   |some q=>obtain⟨e,z,A⟩:=q;cases e<;>rfl
 | cond c a b k o=>
   intro l h d g
   show Option.rec (motive:=fun _=>Opt) none (fun t=>Bool.rec (ni E R M cx b l h d g) (ni E R M cx a l h d g) t) (asBool (evK l c))=_
   rw [fC,k,o]
   simp only [aE]
   cases l.ev c<;>(try rfl)
   rename_i t
   cases t<;>rfl
 | block id b w=>
   intro l h d g
   show ni E R M cx b l h d (fun e l h=>blkK e id d g l h)=_
   rw [w]
   simp only [aE]
   cases aE E R cx b l h with
   |none=>rfl
   | some q=>
     obtain⟨e,z,A⟩:=q
     cases e with
     |normal=>rfl
     |ret=>rfl
     |pan v=>rfl
     | exit i=>
       show Bool.rec (motive:=fun _=>Opt) (g (.exit i) z A) (d z A) (Xc i id)=_
       simp only []
       cases Xc i id<;>rfl
 | loop b w=>
   intro l h d g
   show ni E R M cx b l h (fun l h=>M cx (.loop b) l h d g) g=_
   rw [w,show(fun l h=>M cx (.loop b) l h d g)=fun l h=>dE (R.code cx (.loop b) l h) d g from funext fun l=>funext fun h=>D cx (.loop b) l h d g]
   rw [qU _ _ _ _ _ (fun _ _ _ _=>rfl)]
   simp only [aE]
   cases aE E R cx b l h with
   |none=>rfl
   |some q=>obtain⟨e,z,A⟩:=q;cases e<;>rfl
 | rangeFunc f u C y _ _=>
   intro l h d g
   show dE (io R cx (evK l f) u C y l h) d g=_
   rw [fC];rfl
 |exit id=>intro l h d g;rfl
 |scope b w=>intro l h d g;exact w l h d g
 |goto n=>intro l h d g;rfl
 |ret=>intro l h d g;rfl
 |refuse m=>intro l h d g;rfl

theorem z9(E:Env)(R:Rec)(a:Func)(l:Loc)(h:Hp):doneK E R a l h=uw E R a l h:=by
 unfold doneK uw
 cases b:l.dfs with
 |cons d c=>rfl
 | nil=>
   simp only [bT]
   cases aY E l.regs h a.results.toList<;>rfl
theorem callBK_eq(E:Env)(R:Rec)(f:FuncId)(args:List Value)(rc:Option (Value×Bool))(h:Hp):callBK E R f args rc h=jL E R f args rc h:=by
 unfold callBK jL
 cases E.fn f with
 |none=>rfl
 | some b=>
   show Option.rec (motive:=fun _=>oz) none (fun a=>wg E R f args rc h b a) b.body=_
   simp only []
   cases b.body with
   |none=>rfl
   | some a=>
     show wg E R f args rc h b a=_
     unfold wg
     simp only []
     cases Xa args.length b.ntmps with
     |false=>rfl
     | true=>
       show leaveK E R b _=_
       simp only [cond_true]
       cases R.code ⟨f,b.ntmps,none⟩ a ⟨(Tr.blank (.tuple #[]) b.ntmps b.ntmps).setAll 0 args,[],rc⟩ h with
       |none=>rfl
       | some q=>
         obtain⟨e,l,c⟩:=q
         cases e with
         |exit i=>rfl
         |pan v=>rfl
         |normal=>exact z9 E R b l c
         |ret=>exact z9 E R b l c

theorem callSK_eq(E:Env)(R:Rec)(f:FuncId)(args:List Value)(rc:Option (Value×Bool))(h:Hp):uQ E R f args rc h=iB E R f args rc h:=by
 unfold uQ iB
 cases E.orc f args with
 |none=>exact callBK_eq E R f args rc h
 |some v=>cases rc<;>rfl

theorem Af(E:Env): ∀n,(runK E n).rec'=run E n/\ ∀cx c l h b d,(runK E n).code cx c l h b d=dE ((run E n).code cx c l h) b d
 |0=>⟨rfl,fun _ _ _ _ _ _=>rfl⟩
 | n+1=>by
   obtain⟨i,k⟩:=Af E n
   have j: ∀cx c l h b d,(runK E (n+1)).code cx c l h b d=dE ((run E (n+1)).code cx c l h) b d:=by
    intro cx c l h b d
    show ni E (runK E n).rec' (runK E n).code cx c l h b d=dE (aE E (run E n) cx c l h) b d
    rw [i]
    exact codeK_eq E (run E n) (runK E n).code k cx c l h b d
   refine⟨?_,j⟩
   show Rec.mk (fun f a g h=>uQ E (runK E n).rec' f a g h) (fun cx c l h=>(runK E (n+1)).code cx c l h (fun l h=>some (.normal,l,h)) (fun e l h=>some (e,l,h)))=next E (run E n)
   rw [i]
   unfold next
   congr 1
   . funext f a g h;exact callSK_eq E (run E n) f a g h
   . funext cx c l h;rw [j,bind2_id];rfl
theorem runK_call(E:Env)(n:Nat)(f:FuncId)(args:List Value)(rc:Option (Value×Bool))(h:Hp):(runK E n).call f args rc h=(run E n).call f args rc h:=by
 rw [<-(Af E n).1];rfl

theorem envK_eq(a:Tr Func)(b:Tr TypeInfo)(c:List Nat):envK a b c=envOf a b c:=rfl

end
end Go.Ab

namespace Go.Ab
section
variable{E:Env}{ρ:Operand->Value}{h:Hp}
theorem o_move{x:Operand}:aop E ρ h (.move x)=some (.val (ρ x),h):=rfl
theorem o_assign{x:Operand}:aop E ρ h (.assign x)=some (.val (ρ x),h):=rfl
theorem o_load{t:TypeId}{a:Operand}:aop E ρ h (.load t a)=cB h (eI E h t (ρ a)):=rfl
theorem o_store{t:TypeId}{a x:Operand}:aop E ρ h (.store t a x)=ep (iQ E h t (ρ a) (ρ x)):=rfl
theorem o_binOp{op:BinOp}{t u:TypeId}{x y:Operand}:aop E ρ h (.binOp op t x y u)=cB h (bH E op t x y (ρ x) (ρ y)):=rfl
theorem o_unOp{op:UnOp}{t:TypeId}{x:Operand}:aop E ρ h (.unOp op t x)=cB h (unP op (ρ x)):=rfl
theorem Br{f:FuncId}{a b:Array Operand}:aop E ρ h (.makeFunc (.func f) a b)=some (.val (.func (.func f) (a.map ρ) (b.map ρ)),h):=rfl
theorem o_slice{t:TypeId}{x:Operand}{l u m:Option Operand}:aop E ρ h (.slice t x l u m)=cB h (fg E t (ρ x) (l.map ρ) (u.map ρ) (m.map ρ)):=rfl
theorem Ba{s:TypeId}{x:Operand}{i:Nat}:aop E ρ h (.fieldAddr s x i)=cB h (aA E s (ρ x) i):=rfl
theorem o_field{s:TypeId}{x:Operand}{i:Nat}:aop E ρ h (.field s x i)=cB h (aP E s (ρ x) i):=rfl
theorem AO{t:TypeId}{x i:Operand}:aop E ρ h (.indexAddr t x i)=cB h (eh E t (ρ x) (ρ i)):=rfl
theorem o_index{t:TypeId}{x i:Operand}:aop E ρ h (.index t x i)=cB h (nZ E t (ρ x) (ρ i)):=rfl
theorem o_build{t:TypeId}{ps:Array (Nat×Operand)}:aop E ρ h (.build t ps)=cB h (jV E t (ps.toList.map fun p=>(p.1,ρ p.2))):=rfl
theorem Aj{t:TypeId}{n:Nat}{ps:Array (Nat×Operand)}:aop E ρ h (.buildSlice t n ps)=c5 (js E h t n (ps.toList.map fun p=>(p.1,ρ p.2))):=rfl
theorem AA{t:TypeId}{l c:Operand}:aop E ρ h (.makeSlice t l c)=c5 (jc E h t (ρ l) (ρ c)):=rfl
theorem zQ{x:Operand}{s t:TypeId}{a:Bool}:aop E ρ h (.typeAssert x s t a)=cB h (pu E (ρ x) t a):=rfl
theorem o_convert{s t:TypeId}{x:Operand}:aop E ρ h (.convert s t x)=c5 (ja E h s t (ρ x)):=rfl
theorem o_lookup{t:TypeId}{m k:Operand}{a:Bool}:aop E ρ h (.lookup t m k a)=cB h (cm E h t (ρ m) (ρ k) a):=rfl
theorem A5{t:TypeId}{m k v:Operand}:aop E ρ h (.mapUpdate t m k v)=ep (dD E h t (ρ m) (ρ k) (ρ v)):=rfl
theorem Bv{t:TypeId}{m k:Operand}:aop E ρ h (.mapEntry t m k)=c5 (ip E h t (ρ m) (ρ k)):=rfl
theorem zg{t:TypeId}{m s v:Operand}:aop E ρ h (.entryStore t m s v)=ep (kU h (ρ m) (ρ s) (ρ v)):=rfl
theorem o_callv{f:Operand}{as:Array Operand}{ts:Array TypeId}:aop E ρ h (.call ⟨.value f,as,ts⟩)=match target (ρ f) (as.toList.map ρ)with|none=>none|some x=>some (x,h):=rfl
theorem o_max{x y:Operand}{ts:Array TypeId}:aop E ρ h (.call ⟨.builtin .max,#[x,y],ts⟩)=cB h (fV true (ρ x) [ρ y]):=rfl
theorem o_min{x y:Operand}{ts:Array TypeId}:aop E ρ h (.call ⟨.builtin .min,#[x,y],ts⟩)=cB h (fV false (ρ x) [ρ y]):=rfl
theorem o_append{s x:Operand}{ts:Array TypeId}:aop E ρ h (.call ⟨.builtin .append,#[s,x],ts⟩)=c5 (dg E h ts.toList (ρ s) (ρ x)):=rfl
theorem o_copy{s x:Operand}{ts:Array TypeId}:aop E ρ h (.call ⟨.builtin .copy,#[s,x],ts⟩)=c5 (copyV E h ts.toList (ρ s) (ρ x)):=rfl
end
theorem Co{h:Hp}{v:Value}:cB h (some v)=some (.val v,h):=rfl
theorem BY{h:Hp}{v:Value}:c5 (some (h,v))=some (.val v,h):=rfl
theorem Ce{h:Hp}:ep (some h)=some (.skip,h):=rfl
theorem eX(k:IntKind):i7 k k=true:=by rw [gJ];simp
theorem b_add{E:Env}{t:TypeId}{x y:Operand}{k:IntKind}{m n:Int}:bH E .add t x y (.int k m) (.int k n)=some (.int k (an k (m+n))):=by simp [bH,eX,g9]
theorem b_sub{E:Env}{t:TypeId}{x y:Operand}{k:IntKind}{m n:Int}:bH E .sub t x y (.int k m) (.int k n)=some (.int k (an k (m-n))):=by simp [bH,eX,g9]
theorem b_mul{E:Env}{t:TypeId}{x y:Operand}{k:IntKind}{m n:Int}:bH E .mul t x y (.int k m) (.int k n)=some (.int k (an k (m*n))):=by simp [bH,eX,g9]
theorem mG(m n:Int):gL m n=decide (m=n):=by rw [gD];by_cases h:m=n<;>simp [h]
theorem b_eql{E:Env}{t:TypeId}{x y:Operand}{k:IntKind}{m n:Int}:bH E .eql t x y (.int k m) (.int k n)=some (.bool (decide (m=n))):=by simp [bH,eX,g9,mG]
theorem b_neq{E:Env}{t:TypeId}{x y:Operand}{k:IntKind}{m n:Int}:bH E .neq t x y (.int k m) (.int k n)=some (.bool (!decide (m=n))):=by simp [bH,eX,g9,mG]
theorem b_lss{E:Env}{t:TypeId}{x y:Operand}{k:IntKind}{m n:Int}:bH E .lss t x y (.int k m) (.int k n)=some (.bool (decide (m<n))):=by simp [bH,eX,g9,ij]
theorem b_leq{E:Env}{t:TypeId}{x y:Operand}{k:IntKind}{m n:Int}:bH E .leq t x y (.int k m) (.int k n)=some (.bool (decide (m<=n))):=by
 simp only [bH,eX,g9,ij,cond_true]
 by_cases a:m<=n
 . rw [decide_eq_true a,decide_eq_false (by omega)];rfl
 . rw [decide_eq_false a,decide_eq_true (by omega)];rfl
theorem b_gtr{E:Env}{t:TypeId}{x y:Operand}{k:IntKind}{m n:Int}:bH E .gtr t x y (.int k m) (.int k n)=some (.bool (decide (n<m))):=by simp [bH,eX,g9,ij]
theorem b_geq{E:Env}{t:TypeId}{x y:Operand}{k:IntKind}{m n:Int}:bH E .geq t x y (.int k m) (.int k n)=some (.bool (decide (n<=m))):=by
 simp only [bH,eX,g9,ij,cond_true]
 by_cases a:n<=m
 . rw [decide_eq_true a,decide_eq_false (by omega)];rfl
 . rw [decide_eq_false a,decide_eq_true (by omega)];rfl
theorem kJ{E:Env}{t:TypeId}{x y:Operand}{k:IntKind}{m n:Int}(h:n≠0):bH E .quo t x y (.int k m) (.int k n)=some (.int k (an k (m.tdiv n))):=by
 simp [bH,eX,g9,mG,h]
theorem kK{E:Env}{t:TypeId}{x y:Operand}{k:IntKind}{m n:Int}(h:n≠0):bH E .rem t x y (.int k m) (.int k n)=some (.int k (m.tmod n)):=by
 simp [bH,eX,g9,mG,h]
theorem mm_max{k k':IntKind}{a b:Int}:fV true (.int k a) [.int k' b]=some (.int k (max a b)):=by
 simp only [fV,ij,cond_true]
 by_cases h:a<b
 . rw [decide_eq_true h];simp only [cond_true];rw [Int.max_eq_right (by omega)]
 . rw [decide_eq_false h];simp only [cond_false];rw [Int.max_eq_left (by omega)]
theorem mm_min{k k':IntKind}{a b:Int}:fV false (.int k a) [.int k' b]=some (.int k (min a b)):=by
 simp only [fV,ij,cond_false]
 by_cases h:b<a
 . rw [decide_eq_true h];simp only [cond_true];rw [Int.min_eq_right (by omega)]
 . rw [decide_eq_false h];simp only [cond_false];rw [Int.min_eq_left (by omega)]
theorem wrap64{n:Int}(a: -9223372036854775808<=n)(b:n<9223372036854775808):an .i64 n=n:=by
 unfold an
 cases n with
 | ofNat m=>
   have:Xs m (hf .i64)=true:=by rw [Nat.blt_eq];simp only [hf];have c:(m:Int)<9223372036854775808:=b;omega
   simp only [this,cond_true]
 | negSucc m=>
   have:Xs m (hf .i64)=true:=by rw [Nat.blt_eq];simp only [hf];have: -9223372036854775808<=Int.negSucc m:=a;omega
   simp only [sgn,this,cond_true]
theorem tK{c:Type}{a:c}{P:c->Prop}:(∃b,some a=some b/\P b)↔P a:=⟨fun⟨b,d,e⟩=>by cases d;exact e,fun h=>⟨a,rfl,h⟩⟩
theorem AT{a:Bool}{P:Bool->Prop}:(∃t,Value.bool a=Value.bool t/\P t)↔P a:=⟨fun⟨b,c,d⟩=>by cases c;exact d,fun h=>⟨a,rfl,h⟩⟩
end Go.Ab
namespace Go.Ab
theorem aR{v:Value}{l:List Value}:bJ (v::l) 0=v:=rfl
theorem bU{v:Value}{l:List Value}{i:Nat}:bJ (v::l) (i+1)=bJ l i:=rfl
end Go.Ab
namespace Go.Ab
section
variable{l:Loc}
theorem c_int{k:IntKind}{n:Int}:l.ev (.const (.int k n))=.int k n:=rfl
theorem c_bool{b:Bool}:l.ev (.const (.bool b))=.bool b:=rfl
theorem c_string{s:ByteArray}:l.ev (.const (.string s))=.string s:=rfl
theorem c_nilp:l.ev (.const (.pointer none))=.pointer none:=rfl
theorem c_nils:l.ev (.const (.slice none 0 0))=.slice none 0 0:=rfl
theorem c_nilm:l.ev (.const (.map none))=.map none:=rfl
theorem c_nilf:l.ev (.const .nilFunc)=.nilFunc:=rfl
theorem c_nili:l.ev (.const .nilIface)=.nilIface:=rfl
end
end Go.Ab
namespace Go.Ab
def one1:Option (List Value)->Option Value
 |some [v]=>some v
 |_=>none
theorem one1_some{v:Value}:one1 (some [v])=some v:=rfl
theorem BV{E:Env}{h:Hp}{t:TypeId}{b o:Nat}{s:Option Nat}(a:E.agg t=some false):eI E h t (.pointer (some ⟨b,o,s⟩))=one1 (h.load b o 1):=by
 simp only [eI,a]
 unfold one1
 rfl
end Go.Ab
namespace Go.Ab
def gv(a:Bool):Option Value->Option Bool
 |some (.bool b)=>some (bif b then a else !a)
 |some (.tuple _)=>some false
 |_=>none
noncomputable def gj(a:Bool)(b:Tr Value):Option Oper->Option Bool
 |none=>some false
 | some o=>match o.dst with
   |none=>some false
   |some d=>gv a (b.get d)
theorem Bd{a:List Oper}{c:Tr Value}{d:Option Tmp}{op:Op}{t:TypeId}{p:String}{e:Array Edge}{j:Nat}{b:Bool}:bW a c ⟨d,op,t,p,e,some (j,b)⟩=gj b c (a[j]?):=by
 simp only [bW,gj]
 cases a[j]? with
 |none=>rfl
 | some o=>
   simp only []
   cases o.dst with
   |none=>rfl
   | some d=>
     simp only [gv]
     cases c.get d with
     |none=>rfl
     |some v=>cases v<;>rfl
theorem gj_some{a:Bool}{b:Tr Value}{d:Tmp}{op:Op}{t:TypeId}{p:String}{c:Array Edge}{g:Option (Nat×Bool)}:gj a b (some ⟨some d,op,t,p,c,g⟩)=gv a (b.get d):=rfl
theorem gv_true{b:Bool}:gv true (some (.bool b))=some b:=by cases b<;>rfl
theorem gv_false{b:Bool}:gv false (some (.bool b))=some (!b):=by cases b<;>rfl
theorem gv_tuple{a:Bool}{x:Array Value}:gv a (some (.tuple x))=some false:=rfl
theorem u_not{b:Bool}:unP .not (.bool b)=some (.bool (!b)):=rfl
theorem target_fn{g:FuncId}{a b:Array Value}{args:List Value}:target (.func (.func g) a b) args=some (.call g (a.toList++args++b.toList)):=rfl
def aM(E:Env)(f:FuncId)(args:List Value)(h:Hp)(v:Value):Prop:=Ret E f args h fun a b=>a=v/\Gr h b
end Go.Ab
namespace Go.Ab
theorem ct{E:Env}{cx:Cx}{Q:eF}{k:List Fr}{l:Loc}{h:Hp}{b:Code}:Run E (lim E) cx Q (.code (.loop b)::k) .normal l h↔Run E (lim E) cx Q (.code b:: .code (.loop b)::k) .normal l h:=by
 rw [<-run_seq]
 simp only [Run]
 have:aE E (lim E) cx (.loop b) l h=aE E (lim E) cx (.seq b (.loop b)) l h:=by
  simp only [aE]
  cases aE E (lim E) cx b l h with
  |none=>rfl
  | some q=>
    obtain⟨e,a,c⟩:=q
    cases e with
    |normal=>show(lim E).code cx (.loop b) a c=_;rw [wS];rfl
    |exit i=>rfl
    |ret=>rfl
    |pan v=>rfl
 rw [this]
def lenK(r:Option (dl×Hp))(h:Hp):Option Value->Option (dl×Hp)
 |some v=>some (.val v,h)
 |none=>r
theorem o_lenK{E:Env}{ρ:Operand->Value}{h:Hp}{x:Operand}{t:TypeId}:aop E ρ h (.call ⟨.builtin .len,#[x],#[t]⟩)=lenK (match ρ x with
 | .map (some r)=>match h.get r with
   |some (.map a _)=>match E.und t with
    |some (.map _ _)=>some (.val (.int .i64 (.ofNat a.length)),h)
    |_=>none
   |_=>none
 |_=>none) h (ou E t (ρ x)):=by
 simp only [aop,pop]
 cases ou E t (ρ x)with
 |some v=>rfl
 | none=>
   simp only [lenK]
   cases ρ x<;>rfl
theorem natOf_nn{i:Int}(h:0<=i):ic i=some i.toNat:=by
 cases i with
 |ofNat n=>rfl
 |negSucc n=>exact absurd h (by simp)
theorem idxP_in{k:IntKind}{i:Int}{n:Nat}(h0:0<=i)(a:i<n):iM (.int k i) n=some i.toNat:=by
 simp only [iM,natOf_nn h0]
 have:Xs i.toNat n=true:=by rw [Nat.blt_eq];omega
 rw [this];rfl
theorem pz{k:IntKind}{i n:Nat}(a:i<n):iM (.int k (i:Int)) n=some i:=by
 rw [idxP_in (Int.natCast_nonneg i) (by omega)];simp
theorem ia_slice{E:Env}{t e:TypeId}{k:Nat}{a:Addr}{n c:Nat}{v:Value}(b:E.und t=some (.slice e))(d:E.sz e=some k):eh E t (.slice (some a) n c) v=(iM v n).map fun i=>.pointer (some (fN a (i*k))):=by
 simp only [eh,b,d]
 cases iM v n<;>rfl
end Go.Ab
namespace Go.Ab
theorem am{E:Env}{cx:Cx}{o:Oper}{l:Loc}{K:Ex->Loc->Hp->Prop}{h:Hp}{f:FuncId}{args:List Value}{v:Value}(b:aM E f args h v)(c: ∀a,Gr h a->K .normal (l.put o.dst v) a):eZ E cx o l K (some (.call f args,h)):=
 step_ret b fun d a ⟨e,g⟩=>by rw [e];exact c a g
theorem uU{E:Env}{K:Value->Hp->Prop}{f:FuncId}{args:List Value}{h:Hp}{v:Value}(b:aM E f args h v)(c: ∀a,Gr h a->K v a):jF E K (some (.call f args,h)):=
 xH b fun d a ⟨e,g⟩=>by rw [e];exact c a g
theorem aM.of{E:Env}{f:FuncId}{args:List Value}{h:Hp}{v:Value}(a:Ret E f args h fun v' b=>v'=v/\Gr h b):aM E f args h v:=a
end Go.Ab
namespace Go.Ab
section
variable(E:Env)(cx:Cx)(Q:eF)
def GStep(a:List Oper)(o:Oper)(os:List Oper)(k:List Fr)(l:Loc)(h:Hp):Option Bool->Prop
 |some true=>eZ E cx o l (fun e b c=>Run E (lim E) cx Q (.ops a os::k) e b c) (aop E l.ev h o.op)
 |some false=>Run E (lim E) cx Q (.ops a os::k) .normal (l.put o.dst (.tuple #[])) h
 |none=>False
def CStep(a b:Code)(k:List Fr)(l:Loc)(h:Hp):Value->Prop
 | .bool true=>Run E (lim E) cx Q (.code a::k) .normal l h
 | .bool false=>Run E (lim E) cx Q (.code b::k) .normal l h
 |_=>False
def uZ(a:List Oper)(q:Nat)(ps:List (Nat×Nat))(o:Oper)(os:List Oper)(i:Nat)(c:List (Nat×Tch))(k:List Fr)(l:Loc)(h:Hp):Option Bool->Bool->Prop
 |some true,false=>jF E (fun v b=>Run E (lim E) cx Q (.opsD a q ps os (i+1) (gm i c (cd l.ev false o.op h b))::k) .normal (l.put o.dst v) b) (aop E l.ev h o.op)
 |some true,true=>jF E (fun v b=>Xa h.n b.lo=true/\Run E (lim E) cx Q (.opsD a q ps os (i+1) (gm i c (cd l.ev true o.op h h))::k) .normal (l.put o.dst v) {b with lo:=h.lo}) (aop E l.ev {h with lo:=h.n} o.op)
 |some false,_=>Run E (lim E) cx Q (.opsD a q ps os (i+1) c::k) .normal (l.put o.dst (.tuple #[])) h
 |none,_=>False
end
section
variable{E:Env}{cx:Cx}{Q:eF}{k:List Fr}{l:Loc}{h:Hp}
theorem r_ops{a os:List Oper}{o:Oper}:Run E (lim E) cx Q (.ops a (o::os)::k) .normal l h↔GStep E cx Q a o os k l h (bW a l.regs o):=by
 rw [yK]
 cases bW a l.regs o with
 |none=>exact⟨fun⟨_,e,_⟩=>(by cases e),fun h=>h.elim⟩
 | some b=>
   rw [tK]
   cases b with
   |true=>rw [if_pos rfl];exact then_step
   |false=>rw [if_neg (by simp)];exact zL
theorem g_true{a os:List Oper}{o:Oper}:GStep E cx Q a o os k l h (some true)↔eZ E cx o l (fun e l' b=>Run E (lim E) cx Q (.ops a os::k) e l' b) (aop E l.ev h o.op):=zL
theorem g_false{a os:List Oper}{o:Oper}:GStep E cx Q a o os k l h (some false)↔Run E (lim E) cx Q (.ops a os::k) .normal (l.put o.dst (.tuple #[])) h:=zL
theorem r_cond{c:Operand}{a b:Code}:Run E (lim E) cx Q (.code (.cond c a b)::k) .normal l h↔CStep E cx Q a b k l h (l.ev c):=by
 rw [run_cond]
 cases l.ev c<;>(try (exact⟨fun⟨_,e,_⟩=>(by cases e),fun h=>h.elim⟩))
 rename_i t
 rw [AT]
 cases t with
 |true=>rw [if_pos rfl];exact zL
 |false=>rw [if_neg (by simp)];exact zL
theorem c_true{a b:Code}:CStep E cx Q a b k l h (.bool true)↔Run E (lim E) cx Q (.code a::k) .normal l h:=zL
theorem c_false{a b:Code}:CStep E cx Q a b k l h (.bool false)↔Run E (lim E) cx Q (.code b::k) .normal l h:=zL
theorem r_opsD{a os:List Oper}{o:Oper}{q i:Nat}{ps:List (Nat×Nat)}{c:List (Nat×Tch)}:Run E (lim E) cx Q (.opsD a q ps (o::os) i c::k) .normal l h↔uZ E cx Q a q ps o os i c k l h (bW a l.regs o) (dX E q i o.op):=by
 rw [run_opsD]
 cases bW a l.regs o with
 |none=>exact⟨fun⟨_,e,_⟩=>(by cases e),fun h=>h.elim⟩
 | some b=>
   rw [tK]
   cases b with
   | true=>
     rw [if_pos rfl]
     cases dX E q i o.op with
     |true=>rw [if_pos rfl];exact zL
     |false=>rw [if_neg (by simp)];exact zL
   |false=>rw [if_neg (by simp)];exact zL
theorem d_skip{a os:List Oper}{o:Oper}{q i:Nat}{ps:List (Nat×Nat)}{c:List (Nat×Tch)}{b:Bool}:uZ E cx Q a q ps o os i c k l h (some false) b↔Run E (lim E) cx Q (.opsD a q ps os (i+1) c::k) .normal (l.put o.dst (.tuple #[])) h:=zL
theorem oO{i:Nat}{a:List (Nat×Tch)}:gm i a none=a:=rfl
theorem bn{i:Nat}{b:Tch}{a:List (Nat×Tch)}:gm i a (some b)=(i,b)::a:=rfl
theorem bF{a:List (Nat×Tch)}:cC a []=true:=rfl
theorem guard_no{a:List Oper}{b:Tr Value}{d:Option Tmp}{op:Op}{t:TypeId}{p:String}{c:Array Edge}:bW a b ⟨d,op,t,p,c,none⟩=some true:=rfl
end
end Go.Ab
namespace Go.Ab
theorem b_eqlB{E:Env}{t:TypeId}{x y:Operand}{a b:Bool}(c:E.und t=some .bool):bH E .eql t x y (.bool a) (.bool b)=some (.bool (bif a then b else !b)):=by
 simp [bH,fk,dT,c]
theorem b_neqB{E:Env}{t:TypeId}{x y:Operand}{a b:Bool}(c:E.und t=some .bool):bH E .neq t x y (.bool a) (.bool b)=some (.bool (!(bif a then b else !b))):=by
 simp [bH,fk,dT,c]
theorem same_bool{d:Bool}:(bif d then d else !d)=true:=by cases d<;>rfl
end Go.Ab
namespace Go.Ab
noncomputable def boxR(h:Hp)(t:TypeId):Value->Option (dl×Hp)
 | .chan _=>none
 |v=>some (.val (ptrTo h.n),h.new (.cells (Tr.ofList (ah v)) (ah v).length t 1))
theorem o_boxR{E:Env}{ρ:Operand->Value}{h:Hp}{t:TypeId}{x:Operand}:aop E ρ h (.box t x)=boxR h t (ρ x):=by
 simp only [aop];cases ρ x<;>rfl
noncomputable def allocR(h:Hp)(t:TypeId):Option (List Value)->Option (dl×Hp)
 |none=>none
 |some z=>some (.val (ptrTo h.n),h.new (.cells (Tr.ofList z) z.length t 1))
theorem o_allocR{E:Env}{ρ:Operand->Value}{h:Hp}{t:TypeId}:aop E ρ h (.alloc t)=allocR h t (E.zero t):=by
 simp only [aop];cases E.zero t<;>rfl
section
variable{E:Env}{cx:Cx}{o:Oper}{l:Loc}{K:Ex->Loc->Hp->Prop}{h:Hp}
theorem aC{ops:List Oper}(h:((ops.any sk||sf ops)&&ops.all (iP ops.length))=false):bG ops=ops:=by unfold bG;rw [h];rfl
theorem au{Q:eF}{k:List Fr}{id:Nat}{ops:Array Oper}{q:Nat}{ps:List (Nat×Nat)}{os:List Oper}(b:bG ops.toList=os)(c:jR E os=some (q,ps))(d:Run E (lim E) cx Q (.opsD os q ps os 0 []::k) .normal l h)(a:E.cut cx.fn=false:=by rfl):Run E (lim E) cx Q (.code (.region id ops true)::k) .normal l h:=(run_draw a b c).2 d
theorem fork_step{Q:eF}{k:List Fr}{id:Nat}{ops:Array Oper}{q:Nat}{ps:List (Nat×Nat)}{os:List Oper}{t:Tmp}(b:bG ops.toList=os)(c:pX E os (l9 os)=some t)(d:tE E os=some (q,ps))
 (e:Run E (lim E) cx Q (.opsD os q ps os 0 []:: .kill t::k) .normal l h) (a:E.cut cx.fn=true:=by rfl):Run E (lim E) cx Q (.code (.region id ops true)::k) .normal l h:=run_fork a b c d e
end
theorem quiet_ok{h a:Hp}(g:Gr {h with lo:=h.n} a):Xa h.n a.lo=true:=g.hlo
theorem gr_lo{h a:Hp}(g:Gr {h with lo:=h.n} a):Gr h {a with lo:=h.lo}:=
 ⟨g.ok0,g.ok,g.n,g.get,fun _ _ h=>h⟩
end Go.Ab
namespace Go.Ab
theorem hush_s{E:Env}{q i:Nat}{op:Op}:dX E q i op=(decide (q/2 ^i%2=1)&&decide (3<=cls E op)):=by
 unfold dX
 rw [Nat.testBit_eq_decide_div_mod_eq,dQ]
end Go.Ab
namespace Go.Ab
theorem AX{E:Env}{K:Value->Hp->Prop}{f:FuncId}{args:List Value}{h:Hp}{v:Value}(b:aM E f args {h with lo:=h.n} v)(c: ∀a,Gr h a->K v a):
 jF E (fun v a=>Xa h.n a.lo=true/\K v {a with lo:=h.lo}) (some (.call f args,{h with lo:=h.n})):=
 uU b fun a g=>⟨quiet_ok g,c _ (gr_lo g)⟩
end Go.Ab
namespace Go.Ab
section
variable(E:Env)(cx:Cx)(Q:eF)(a:List Oper)(q:Nat)(ps:List (Nat×Nat))(o:Oper)(os:List Oper)(i:Nat)(k:List Fr)(l:Loc)
def DN(c:Hp->List (Nat×Tch))(x:Option (dl×Hp)):Prop:=jF E (fun v b=>Run E (lim E) cx Q (.opsD a q ps os (i+1) (c b)::k) .normal (l.put o.dst v) b) x
def DQ(h:Hp)(c:List (Nat×Tch))(x:Option (dl×Hp)):Prop:=jF E (fun v b=>Xa h.n b.lo=true/\Run E (lim E) cx Q (.opsD a q ps os (i+1) c::k) .normal (l.put o.dst v) {b with lo:=h.lo}) x
end
section
variable{E:Env}{cx:Cx}{Q:eF}{a:List Oper}{q:Nat}{ps:List (Nat×Nat)}{o:Oper}{os:List Oper}{i:Nat}{k:List Fr}{l:Loc}{h:Hp}{tr:List (Nat×Tch)}{tf:Hp->List (Nat×Tch)}
theorem dn_loud:uZ E cx Q a q ps o os i tr k l h (some true) false↔DN E cx Q a q ps o os i k l (fun b=>gm i tr (cd l.ev false o.op h b)) (aop E l.ev h o.op):=zL
theorem dn_quiet:uZ E cx Q a q ps o os i tr k l h (some true) true↔DQ E cx Q a q ps o os i k l h (gm i tr (cd l.ev true o.op h h)) (aop E l.ev {h with lo:=h.n} o.op):=zL
theorem dn_val{v:Value}{b:Hp}:DN E cx Q a q ps o os i k l tf (some (.val v,b))↔Run E (lim E) cx Q (.opsD a q ps os (i+1) (tf b)::k) .normal (l.put o.dst v) b:=zL
theorem dn_skip{b:Hp}:DN E cx Q a q ps o os i k l tf (some (.skip,b))↔Run E (lim E) cx Q (.opsD a q ps os (i+1) (tf b)::k) .normal (l.put o.dst (.tuple #[])) b:=zL
theorem cM{f:FuncId}{args:List Value}{P:Value->Hp->Prop}(c:Ret E f args h P)(d: ∀v b,P v b->Run E (lim E) cx Q (.opsD a q ps os (i+1) (tf b)::k) .normal (l.put o.dst v) b):DN E cx Q a q ps o os i k l tf (some (.call f args,h)):=xH c d
theorem cy{f:FuncId}{args:List Value}{v:Value}(c:aM E f args h v)(d: ∀b,Gr h b->Run E (lim E) cx Q (.opsD a q ps os (i+1) (tf b)::k) .normal (l.put o.dst v) b):DN E cx Q a q ps o os i k l tf (some (.call f args,h)):=uU c d
theorem qR{f:FuncId}{args:List Value}{v:Value}(c:aM E f args {h with lo:=h.n} v)(d: ∀b,Gr h b->Run E (lim E) cx Q (.opsD a q ps os (i+1) tr::k) .normal (l.put o.dst v) b):DQ E cx Q a q ps o os i k l h tr (some (.call f args,{h with lo:=h.n})):=AX c d
end
end Go.Ab
namespace Go.Ab
theorem ac{b:Nat}:ptrTo b=.pointer (some ⟨b,0,none⟩):=rfl
end Go.Ab

namespace Go.Ab
open Go.ChangeShapes Go.WideShapes Go.RowKit

theorem len2{c:Type}{l:List c}(h:l.length=2): ∃a b,l=[a,b]:=by
 match l,h with
 | [a,b],_=>exact⟨a,b,rfl⟩
section
variable{H:Type}{enc:TypeId×Value->H}{P:Program}
theorem rH(f:laidOutB P=true){W g:World}(i:Below W.heap.size W g): ∀{ts:List TypeId} {vs:List Value} {c:List (DataW H)} {ps:List MemPlace},(ts.all fun t=>P.readableRec t&&decide (t<P.types.size))=true->
 DataW.TrodAll enc P W 0 (fun _=>true) true ts vs c ps->(∀x∈ps,x.block<W.heap.size)->DataW.TrodAll enc P g 0 (fun b=>decide (b<W.heap.size)) true ts vs c ps
 | [],vs,c,ps,_,h,_=>by
   obtain⟨rfl,rfl,rfl⟩:=trodAll_nil h
   exact rfl
 | t::ts,vs,c,ps,a,h,hlt=>by
   obtain⟨v,j,d,k,p,q,rfl,rfl,rfl,l,m⟩:=trodAll_cons h
   simp only [List.all_cons,Xe,decide_eq_true_eq]at a
   exact⟨p,q,Below.trod f a.1.1 a.1.2 l i (fun x e=>hlt x (by simp [e])),rH f i a.2 m (fun x e=>hlt x (by simp [e])),rfl⟩
theorem yd{f:Func}{s:ChangeSpec}{a b:Bool}{W u:World}{args:Array Value}{g:List (DataW H)}{c:List MemPlace}{bt:TypeId}
 (y:laidOutB P=true) (k:(f.params.toList.all fun t=>P.readableRec t&&decide (t<P.types.size))=true) (v:s.vars=[])
 (l:DataW.Whole enc P f.params.toList s.vars a W args.toList g [] c) (d:s.fn H (g++[])={results:=[.lit (.bool true)],args:=g}) (j:Below W.heap.size W u)
 (m:P.underlying bt=some .bool) (n:f.resultTypes=#[bt]):
 s.post enc P f a true b false W args (.bool true) u:=by
 have hlt:=l.lt
 have o:=l
 obtain⟨p,q,z,w,rfl,C,D⟩:=l
 rw [v]at w
 obtain⟨_,rfl⟩:=trodVars_none w
 refine⟨g,[],_,[],p,[],o,?_,?_,?_,⟨j.os,j.output,fun i A=>?_⟩,fun h=>by cases h⟩
 . rw [d,n]
   exact trodAll_cons_mk (shut_bool m _) trodAll_mk0
 . rw [d]
   exact rH y j k z (fun x B=>hlt x (by simpa using B))
 . rw [d,v];rfl
 . rw [j.block i A]
   split
   . rename_i r e;rw [r]at e;cases e;exact⟨rfl,rfl,rfl,fun _ _=>rfl⟩
   . rename_i r e;rw [r]at e;cases e;exact .inr ⟨rfl,rfl⟩
   . rfl

end
end Go.Ab

namespace Go.Ab
open Go.ChangeShapes Go.WideShapes Go.RowKit
noncomputable section

def iz(n:Nat):Value->Value
 | .bool b=>.bool b
 | .int k i=>.int k i
 | .string s=>.string s
 | .pointer none=>.pointer none
 | .pointer (some a)=>if a.spot=none/\a.block<n then .pointer (some ⟨a.block+16,a.off,none⟩)else poison
 | .slice none 0 0=>.slice none 0 0
 | .slice (some a) c d=>if c<=d then(if a.spot=none/\a.block<n then .slice (some ⟨a.block+16,a.off,none⟩) c d else .slice (some ⟨0,0,none⟩) c d)else poison
 |_=>poison
def absA(n:Nat):Value->Value
 | .agg a=>.agg ⟨a.toList.map (iz n)⟩
 |v=>iz n v
def absO(n:Nat):Obj->Blk
 | .cells a _ _=>.cells (Tr.ofList (a.toList.map (iz n))) (a.toList.map (iz n)).length 0 0
 |_=>.dead
def hpW(W:World):Hp:={n:=16+W.heap.size,t:=Tr.ofList (Xg 16 .dead++W.heap.toList.map (absO W.heap.size)),lo:=16+W.heap.size}
def muW(W:World):Mu:=fun b=>if b<16 then .dead else match W.heap[b-16]? with
 |some (.cells a _ _)=>.blk (b-16) 0 a.size
 |some _=>.dead
 |none=>.none

theorem hpW_ok(W:World):(hpW W).t.Sized (hpW W).n:=by
 have h:=Tr.sized_ofList (Xg 16 Blk.dead++W.heap.toList.map (absO W.heap.size))
 have a:(Xg 16 Blk.dead++W.heap.toList.map (absO W.heap.size)).length=16+W.heap.size:=by grind
 rw [a]at h
 exact h
theorem hpW_dead(W:World){b:Nat}(h:b<16):(hpW W).get b=some .dead:=by
 show(Tr.ofList _).get b=_
 rw [Tr.get_ofList,Xr (by simpa using h),Xt,if_pos h]
theorem sg(W:World)(c:Nat):(hpW W).get (c+16)=(W.heap[c]?).map (absO W.heap.size):=by
 show(Tr.ofList _).get (c+16)=_
 rw [Tr.get_ofList,List.getElem?_append_right (by simp)]
 simp
theorem nX(W:World)(c:Nat):muW W (c+16)=match W.heap[c]? with
 |some (.cells cs _ _)=>.blk c 0 cs.size
 |some _=>.dead
 |none=>.none:=by
 rfl
theorem arel_W{W:World}{a:Addr}(h:a.spot=none/\a.block<W.heap.size):ee (muW W) ⟨a.block+16,a.off,none⟩ a:=by
 obtain⟨b,o,s⟩:=a
 grind[ee,nX,Xi]
theorem vrel_V(W:World)(v:Value):ao (muW W) (iz W.heap.size v) v:=by
 cases v<;>(try exact .poison _)
 . exact .bool _
 . exact .int _ _
 . exact .string _
 . rename_i a
   cases a with
   |none=>exact .nilp
   | some a=>
     simp only [iz]
     split
     . exact .ptr (arel_W ‹_›)
     . exact .poison _
 . rename_i a d e
   cases a with
   | none=>
     cases d with
     | zero=>cases e with
       |zero=>exact .nils
       |succ n=>exact .poison _
     |succ n=>exact .poison _
   | some a=>
     simp only [iz]
     split
     . rename_i c
       split
       . rename_i h
         refine .slice c ?_
         have:=arel_W h
         obtain⟨b,o,s⟩:=a
         grind[dP,nX,Xi]
       . refine .slice c ?_
         simp_all[dP,muW,Xb]
     . exact .poison _
theorem vrel_A(W:World)(v:Value):ao (muW W) (absA W.heap.size v) v:=by
 cases v
 case agg b=>
  refine .agg (by simp) fun i x c a d=>?_
  simp only [Xp,Xj]at a
  obtain⟨y,e,rfl⟩:=a
  grind[vrel_V]
 all_goals (unfold absA;exact vrel_V W _)
theorem hrelW(W:World):aG (muW W) (hpW W) W:=by
 refine⟨hpW_ok W,fun b c a e d=>?_,fun b d=>?_,fun b s c a e f l t u=>?_,fun b d=>?_⟩
 . have w:16<=b:=by
    rcases Xm b 16 with h|h
    . simp_all[muW,if_pos]
    . exact h
   obtain⟨k,rfl⟩: ∃k,b=k+16:=⟨b-16,by omega⟩
   rw [nX]at d
   split at d
   next m el n p=>
    cases d
    refine⟨absO W.heap.size (.cells m el n),_,by rw [sg,p];rfl,p,m,el,n,rfl,rfl,by simp,Tr.sized_ofList _,fun i v g=>?_,fun h=>absurd rfl h⟩
    rw [Tr.get_ofList]at g
    simp only [Xp,Xj]at g
    obtain⟨y,x,rfl⟩:=g
    grind[vrel_V]
   next=>cases d
   next=>cases d
 . rcases Xm b 16 with h|h
   . exact hpW_dead W h
   . obtain⟨k,rfl⟩: ∃k,b=k+16:=⟨b-16,by omega⟩
     rw [nX]at d
     split at d
     next=>cases d
     next o q j=>
      rw [sg,j]
      cases o<;>first|rfl|grind
     next=>cases d
 . have r: ∀b c a e,muW W b=.blk c a e->b=c+16:=by
    intro b c a e d
    rcases Xm b 16 with h|h
    . simp_all[muW,if_pos]
    . obtain⟨k,rfl⟩: ∃k,b=k+16:=⟨b-16,by omega⟩
      grind[nX]
   grind
 . show b<16+W.heap.size
   rcases Xm b 16 with h|h
   . omega
   . obtain⟨k,rfl⟩: ∃k,b=k+16:=⟨b-16,by omega⟩
     rw [nX]at d
     grind
theorem globW(W:World):kQ (muW W):=by
 intro g a
 simp_all[ee,muW,if_pos]
theorem belowW{W w':World}{f:Mu}{m:Hp}(e:Ext (muW W) (hpW W) W f m w'):Below W.heap.size W w':=by
 refine⟨e.os,e.tape,e.output,e.wsize,fun c i=>?_⟩
 cases n:W.heap[c]with
 | cells g el o=>
   have j:W.heap[c]? =some (.cells g el o):=by grind
   have p:muW W (c+16)=.blk c 0 g.size:=by rw [nX,j]
   exact(e.ro (c+16) c 0 g.size _ _ 0 p (by rw [sg,j];rfl)).1
 | _ =>
   refine e.frame c i fun b l q a=>?_
   rcases Xm b 16 with h|h
   . unfold muW at a;rw [if_pos h]at a;cases a
   . obtain⟨k,rfl⟩: ∃k,b=k+16:=⟨b-16,by omega⟩
     rw [nX]at a
     split at a
     next r s t d=>
      cases a
      rw [Xi i,n]at d
      cases d
     next=>cases a
     next=>cases a
theorem calls_W{E:Env}{P:Program}(d:EOk E P){f:FuncId}{args:Array Value}{W:World}(h:aM E f (args.toList.map (absA W.heap.size)) (hpW W) (.bool true)):
 Calls P f args W fun e w'=>e=.returned (.bool true)/\Below W.heap.size W w':=by
 obtain⟨v,A,j,rfl,g⟩:=h
 intro k
 obtain⟨_,a⟩:=lim_ok d _ _ _ _ _ _ _ j
 have l:VL (muW W) (args.toList.map (absA W.heap.size)) args.toList:=by
  refine⟨by simp,fun i x B a C=>?_⟩
  simp only [Xp,Xj]at a
  obtain⟨y,D,rfl⟩:=a
  grind[vrel_A]
 obtain⟨m,w',c,n,F,o,G,p,q,r,s⟩:=a (muW W) W args none k .normal (hrelW W) (globW W) l trivial (.inl rfl)
 have:=p.normal
 subst this
 obtain⟨H,b,t⟩:=r
 cases t
 obtain⟨u,w,z⟩:=b.res
 exact⟨.returned (.bool true),w',n,⟨rfl,belowW o⟩,q,s,b.mode,b.defers,b.kind,u,w,z⟩
theorem load_W{W:World}{a:Addr}{i:Nat}{v:Value}(c:a.spot=none)(h:W.cell? (a.add i)=some v):(hpW W).load (a.block+16) (a.off+i) 1=some [iz W.heap.size v]:=by
 obtain⟨b,o,s⟩:=a
 simp only []at c
 subst c
 have d:(Addr.mk b o none).add i=⟨b,o+i,none⟩:=by
  grind[Addr.add]
 rw [d]at h
 unfold World.cell? at h
 simp only []at h
 split at h
 next e el k f=>
  have g:Row (hpW W) (b+16) (e.toList.map (iz W.heap.size)) 0:=⟨_,_,by rw [sg,f];rfl,Tr.sized_ofList _,fun j=>Tr.get_ofList _ j⟩
  refine g.load1 ?_
  grind
 grind
end
end Go.Ab

namespace Go.Ab
def argEq:Value->Value->Bool
 | .int k a,.int c b=>i7 k c&&gL a b
 | .bool a,.bool b=>bif a then b else !b
 | .string s,.string u=>gG (aD s) (aD u)
 |_,_=>false
def pE:List Value->List Value->Bool
 | [],[]=>true
 |a::l,b::m=>argEq a b&&pE l m
 |_,_=>false
def orcOf:List (Nat×List Value×Value)->Nat->List Value->Option Value
 | [],_,_=>none
 |(f,as,v)::l,g,a=>bif Xc f g&&pE as a then some v else orcOf l g a
theorem Ap{a b:Value}(h:argEq a b=true):a=b:=by
 unfold argEq at h
 split at h
 . rename_i k m c n
   simp only [Xe]at h
   have d:k=c:=by simpa [gJ]using h.1
   have e:m=n:=by simpa [gD]using h.2
   rw [d,e]
 . rename_i a b
   cases a<;>cases b<;>first|rfl|cases h
 . rename_i s u
   have this:s.data.toList=u.data.toList:=by
    have:=h
    rw [jd]at this
    simpa [aD]using this
   cases s with|mk a=>cases u with|mk b=>rw [show a=b from Array.ext' this]
 . cases h
theorem xu: ∀{a b:List Value},pE a b=true->a=b
 | [],[],_=>rfl
 | [],_::_,h=>by simp [pE]at h
 |_::_,[],h=>by simp [pE]at h
 | a::x,b::y,h=>by
   simp only [pE,Xe]at h
   rw [xu h.2,Ap h.1]
theorem xh{P:Nat->List Value->Value->Prop}: ∀{l:List (Nat×List Value×Value)},(∀e∈l,P e.1 e.2.1 e.2.2)-> ∀{g:Nat} {args:List Value} {v:Value},orcOf l g args=some v->P g args v
 | [],_,g,args,v,h=>by cases h
 | (f,as,x)::l,b,g,args,v,h=>by
   simp only [orcOf]at h
   cases a:Xc f g&&pE as args with
   | true=>
     rw [a]at h
     cases h
     simp only [Xe]at a
     have c:=Xd a.1
     have d:=xu a.2
     subst c
     subst d
     exact b _ (Xn)
   | false=>
     rw [a]at h
     exact xh (fun e i=>b e (List.mem_cons_of_mem _ i)) h
def isVal(v:Value)(r:Option (Out×Option (Value×Bool)×Hp)):Bool:=match r with
 |some (.ret u,none,_)=>argEq u v
 |_=>false
theorem isVal_ret{v:Value}{r:Option (Out×Option (Value×Bool)×Hp)}(h:isVal v r=true): ∃a,r=some (.ret v,none,a):=by
 unfold isVal at h
 split at h
 . rw [Ap h];exact⟨_,rfl⟩
 . cases h
def nH(E:Env)(P:Program)(e:Nat×List Value×Value):Prop:=(∃a,E.fn e.1=some a/\a.body.isSome=true)/\OrcAt P e.1 e.2.1 e.2.2
theorem known_of{E:Env}{P:Program}(c:EOk E P){n:Nat}{f:Nat}{args:List Value}{v:Value}(b:(args.all cL&&cL v)=true)(a:isVal v ((runK E n).call f args none hp0)=true):nH E P (f,args,v):=by
 simp only [Xe]at b
 obtain⟨d,a⟩:=isVal_ret a
 rw [runK_call]at a
 exact Cc c b.1 b.2 a
theorem nH.with{E:Env}{P:Program}{o:Nat->List Value->Option Value}{e:Nat×List Value×Value}(k:nH E P e):nH (qM E o) P e:=k
theorem nH.without{E:Env}{P:Program}{o:Nat->List Value->Option Value}{e:Nat×List Value×Value}(k:nH (qM E o) P e):nH E P e:=k
theorem eok_table{E:Env}{P:Program}(b:EOk E P){l:List (Nat×List Value×Value)}(c: ∀e∈l,nH E P e):EOk (qM E (orcOf l)) P:=
 eok_with b fun _ _ _ h=>xh (P:=fun g a v=>nH E P (g,a,v)) c h
end Go.Ab

namespace Go.Ab

inductive Ob where
 |row (l:List Value) (md:Nat)
 |map (es:List (Value×Value×Nat)) (c:Nat)
 |loop (x:eu)
 |dfr
def Has(h:Hp)(b:Nat):Ob->Prop
 | .row l a=>Row h b l a
 | .map d c=>h.get b=some (.map d c)
 | .loop x=>h.get b=some (.loop x)
 | .dfr=>h.get b=some .dfr
theorem Row.of_get{h f:Hp}{b:Nat}{l:List Value}{md:Nat}(e:f.get b=h.get b)(k:Row h b l md):Row f b l md:=by
 obtain⟨t,el,a,c,d⟩:=k;exact⟨t,el,by rw [e];exact a,c,d⟩
theorem Has.of_get{h a:Hp}{b:Nat}{o:Ob}(e:a.get b=h.get b)(k:Has h b o):Has a b o:=by
 cases o with
 |row l d=>exact Row.of_get e k
 |map f c=>exact e.trans k
 |loop x=>exact e.trans k
 |dfr=>exact e.trans k
theorem Has.lt{h:Hp}(a:h.t.Sized h.n){b:Nat}{o:Ob}(k:Has h b o):b<h.n:=by
 cases o with
 |row l d=>exact Row.lt a k
 |map e c=>exact gy a k
 |loop x=>exact gy a k
 |dfr=>exact gy a k
theorem Has.some{h:Hp}{b:Nat}{o:Ob}(k:Has h b o):(h.get b).isSome=true:=by
 cases o with
 |row l d=>obtain⟨t,el,a,_⟩:=k;rw [a];rfl
 |map e c=>rw [show h.get b=_ from k];rfl
 |loop x=>rw [show h.get b=_ from k];rfl
 |dfr=>rw [show h.get b=_ from k];rfl

structure Mo(M:Nat->Prop)(h h':Hp):Prop where
 ok0:h.t.Sized h.n
 ok:h'.t.Sized h'.n
 n:h.n<=h'.n
 get: ∀b,b<h.n-> ¬M b->h'.get b=h.get b
 lo: ∀x,x<=h.n->x<=h.lo->(∀b,M b->x<=b)->x<=h'.lo
abbrev NoM:Nat->Prop:=fun _=>False
theorem Gr.fr{M:Nat->Prop}{h a:Hp}(g:Gr h a):Mo M h a:=⟨g.ok0,g.ok,g.n,fun b c _=>g.get b c,fun x d e _=>g.lo x d e⟩
theorem Mo.gr{h a:Hp}(g:Mo NoM h a):Gr h a:=⟨g.ok0,g.ok,g.n,fun b c=>g.get b c (fun x=>x),fun x d e=>g.lo x d e (fun _ h=>h.elim)⟩
theorem Mo.refl{M:Nat->Prop}{h:Hp}(a:h.t.Sized h.n):Mo M h h:=(Gr.refl a).fr
theorem Mo.trans{M M':Nat->Prop}{a b c:Hp}(x:Mo M a b)(y:Mo M' b c)(e: ∀i,M' i->M i\/a.n<=i):Mo M a c:=
 ⟨x.ok0,y.ok,Xl x.n y.n,fun i f g=>(y.get i (Nat.lt_of_lt_of_le f x.n) (fun d=>(e i d).elim g (fun h=>by omega))).trans (x.get i f g),
  fun i k m l=>y.lo i (Xl k x.n) (x.lo i k m l) fun j n=>(e j n).elim (l j) (fun h=>by omega)⟩
theorem Mo.mono{M M':Nat->Prop}{a b:Hp}(x:Mo M a b)(c: ∀i,M i->M' i):Mo M' a b:=
 ⟨x.ok0,x.ok,x.n,fun i d e=>x.get i d (fun h=>e (c i h)),fun i f g k=>x.lo i f g fun j l=>k j (c j l)⟩
theorem Mo.new{M:Nat->Prop}{a h:Hp}(g:Mo M a h)(x:Blk):Mo M a (h.new x):=g.trans (M':=NoM) (Gr.new g.ok x).fr (fun _ h=>h.elim)
theorem Mo.put{M:Nat->Prop}{a h:Hp}(g:Mo M a h){b:Nat}(f:a.n<=b\/M b)(x:Blk):Mo M a (h.put b x):=by
 refine g.trans (M':=fun i=>i=b) ⟨g.ok,put_ok g.ok b x,Xb _,fun i j c=>cS (fun e=>c e.symm),fun i k l d=>?_⟩ (fun i h=>by grind)
 show i<=df b h.lo
 have:=d b rfl
 grind[df,Xa]
theorem Mo.has{M:Nat->Prop}{a h:Hp}(g:Mo M a h){b:Nat}{o:Ob}(k:Has a b o)(c: ¬M b):Has h b o:=Has.of_get (g.get b (k.lt g.ok0) c) k

abbrev GL:=Value×Nat×List Value
def ez:GL->Option Nat
 |(.slice (some a) _ _,_,_)=>some a.block
 |_=>none
def fJ(h:Hp)(p:GL):Prop:=(p.1=.slice none 0 0/\p.2.2=[])\/ ∃b n,p.1=.slice (some ⟨b,0,some p.2.1⟩) n n/\n*p.2.1=p.2.2.length/\Row h b p.2.2 1
def keys(L:List (Nat×Ob))(G:List GL):List Nat:=L.map Prod.fst++G.filterMap ez

structure St(M:Nat->Prop)(h0 h:Hp)(L:List (Nat×Ob))(G:List GL):Prop where
 fr:Mo M h0 h
 own: ∀p∈L,(h0.n<=p.1\/M p.1)/\Has h p.1 p.2
 gown: ∀p∈G,fJ h p/\ ∀b,ez p=some b->h0.n<=b\/M b
 apart:(keys L G).Nodup

section
variable{M:Nat->Prop}{h0 h:Hp}{L:List (Nat×Ob)}{G:List GL}
theorem fJ.of_get{c:Hp}{p:GL}(k:fJ h p)(e: ∀b,ez p=some b->c.get b=h.get b):fJ c p:=by
 rcases k with k|⟨b,n,a,d,f⟩
 . exact .inl k
 . refine .inr ⟨b,n,a,d,Row.of_get (e b ?_) f⟩
   obtain⟨v,k,g⟩:=p
   simp only []at a
   subst a
   rfl
theorem fJ.lt(d:h.t.Sized h.n){p:GL}(k:fJ h p){b:Nat}(c:ez p=some b):b<h.n:=by
 rcases k with k|⟨j,n,a,e,f⟩
 . obtain⟨v,g,i⟩:=p
   obtain⟨a,e⟩:=k
   simp only []at a
   subst a
   cases c
 . obtain⟨v,g,i⟩:=p
   simp only []at a
   subst a
   cases c
   exact Row.lt d f
theorem je{p:Nat×Ob}(a:p∈L):p.1∈keys L G:=List.mem_append_left _ (Xw a)
theorem gp{p:GL}{b:Nat}(a:p∈G)(c:ez p=some b):b∈keys L G:=List.mem_append_right _ (List.mem_filterMap.2 ⟨p,a,c⟩)
theorem St.key_lt(S:St M h0 h L G){b:Nat}(a:b∈keys L G):b<h.n:=by
 unfold keys at a
 rcases List.mem_append.1 a with a|a
 . obtain⟨p,c,rfl⟩:=List.mem_map.1 a
   exact(S.own p c).2.lt S.fr.ok
 . obtain⟨p,c,d⟩:=List.mem_filterMap.1 a
   exact(S.gown p c).1.lt S.fr.ok d
theorem St.init(a:h.t.Sized h.n):St M h h [] []:=⟨Mo.refl a,fun _ h=>(by cases h),fun _ h=>(by cases h),.nil⟩
theorem St.ok(S:St M h0 h L G):h.t.Sized h.n:=S.fr.ok
theorem St.gr(S:St NoM h0 h L G):Gr h0 h:=S.fr.gr
theorem St.push(S:St M h0 h L G){b:Nat}{o:Ob}(d:h0.n<=b\/M b)(e:Has h b o)(c:b∉keys L G):St M h0 h ((b,o)::L) G:=
 ⟨S.fr,fun p a=>by
  rcases List.mem_cons.1 a with rfl|a
  . grind
  . exact S.own p a,S.gown,List.nodup_cons.2 ⟨c,S.apart⟩⟩
theorem St.step(S:St M h0 h L G){M':Nat->Prop}{c:Hp}(f:Mo M' h c)(g: ∀b,M' b->M b\/h0.n<=b)(d: ∀b∈keys L G,¬M' b):St M h0 c L G:=
 ⟨S.fr.trans f g,fun p a=>⟨(S.own p a).1,f.has (S.own p a).2 (d _ (je a))⟩,
  fun p a=>⟨(S.gown p a).1.of_get fun b e=>f.get b ((S.gown p a).1.lt S.ok e) (d b (gp a e)),(S.gown p a).2⟩,S.apart⟩
theorem St.call(S:St M h0 h L G){a:Hp}(g:Gr h a):St M h0 a L G:=S.step (M':=NoM) g.fr (fun _ h=>h.elim) (fun _ _ h=>h)
theorem St.new(S:St M h0 h L G){x:Blk}{o:Ob}(a:Has (h.new x) h.n o):St M h0 (h.new x) ((h.n,o)::L) G:=
 (S.call (Gr.new S.ok x)).push (.inl S.fr.n) a (fun b=>by have:=S.key_lt b;omega)
theorem St.newG(S:St M h0 h L G){x:Blk}{k n:Nat}{vs:List Value}(d:n*k=vs.length)(f:Row (h.new x) h.n vs 1):St M h0 (h.new x) L ((.slice (some ⟨h.n,0,some k⟩) n n,k,vs)::G):=by
 have a:=S.call (Gr.new S.ok x)
 refine⟨a.fr,a.own,fun p c=>?_,?_⟩
 . rcases List.mem_cons.1 c with rfl|c
   . exact⟨.inr ⟨_,n,rfl,d,f⟩,fun b g=>by cases g;exact .inl S.fr.n⟩
   . exact a.gown p c
 . unfold keys
   have e:List.filterMap ez ((Value.slice (some ⟨h.n,0,some k⟩) n n,k,vs)::G)=h.n::List.filterMap ez G:=rfl
   rw [e]
   refine(List.perm_middle.nodup_iff).2 (List.nodup_cons.2 ⟨fun i=>?_,S.apart⟩)
   have:=S.key_lt i
   omega
theorem St.nilG(S:St M h0 h L G){k:Nat}:St M h0 h L ((.slice none 0 0,k,[])::G):=
 ⟨S.fr,S.own,fun p a=>by
  rcases List.mem_cons.1 a with rfl|a
  . exact⟨.inl ⟨rfl,rfl⟩,fun b c=>by cases c⟩
  . exact S.gown p a,S.apart⟩
theorem li{a:Type}{l:List a}{i:Nat}{x y:a}(h:y∈l.set i x):y=x\/ ∃j,j≠i/\l[j]? =some y:=by
 rw [List.mem_iff_getElem?]at h
 grind
theorem qc{a:Type}{l:List a}(h:l.Nodup){i j:Nat}{x:a}(b:l[i]? =some x)(c:l[j]? =some x):i=j:=by
 grind[Xh,Nat.lt_trichotomy,absurd,List.pairwise_iff_getElem]
theorem pg{L:List (Nat×Ob)}{G:List GL}{i:Nat}{p:Nat×Ob}(a:L[i]? =some p):(keys L G)[i]? =some p.1:=by
 grind[keys,Xh,Xr]
theorem St.put(S:St M h0 h L G){i b:Nat}{o o':Ob}(g:L[i]? =some (b,o)){x:Blk}(q:Has (h.put b x) b o'):St M h0 (h.put b x) (L.set i (b,o')) G:=by
 have k:=S.own _ (zM g)
 have f:(keys L G)[i]? =some b:=pg g
 refine⟨S.fr.put k.1 x,fun p a=>?_,fun p a=>⟨(S.gown p a).1.of_get fun c l=>?_,(S.gown p a).2⟩,?_⟩
 . rcases li a with rfl|⟨j,m,a⟩
   . grind
   . have d:=S.own p (zM a)
     refine⟨d.1,d.2.of_get (cS fun e=>m ?_)⟩
     have n:(keys L G)[j]? =some b:=by rw [pg a];rw [e]
     exact qc S.apart n f
 . refine cS fun e=>?_
   subst e
   have d:=S.apart
   unfold keys at d
   rw [List.nodup_append]at d
   exact d.2.2 b (List.mem_map.2 ⟨_,zM g,rfl⟩) b (List.mem_filterMap.2 ⟨p,a,l⟩) rfl
 . have:keys (L.set i (b,o')) G=keys L G:=by
    unfold keys
    congr 1
    rw [List.map_set]
    refine List.ext_getElem? fun j=>?_
    grind
   rw [this];exact S.apart
theorem St.row(S:St M h0 h L G){b:Nat}{l:List Value}{md:Nat}(a:(b,Ob.row l md)∈L):Row h b l md:=(S.own _ a).2
theorem St.ld(S:St M h0 h L G){b o:Nat}{l:List Value}{md:Nat}{v:Value}(a:(b,Ob.row l md)∈L)(c:l[o]? =some v):h.load b o 1=some [v]:=(S.row a).load1 c
theorem St.lds(S:St M h0 h L G){b o n:Nat}{l:List Value}{md:Nat}(a:(b,Ob.row l md)∈L)(c:o+n<=l.length):h.load b o n=some ((l.drop o).take n):=(S.row a).load c
theorem m0{b:Type}{a:b}{l:List b}:a∈a::l:=Xn
theorem m1{c:Type}{a b:c}{l:List c}:a∈b::a::l:=.tail _ m0
theorem m2{d:Type}{a b c:d}{l:List d}:a∈b::c::a::l:=.tail _ m1
theorem m3{e:Type}{a b c d:e}{l:List e}:a∈b::c::d::a::l:=.tail _ m2
theorem m4{f:Type}{a b c d e:f}{l:List f}:a∈b::c::d::e::a::l:=.tail _ m3
theorem m5{g:Type}{a b c d e f:g}{l:List g}:a∈b::c::d::e::f::a::l:=.tail _ m4
theorem m6{i:Type}{a b c d e f g:i}{l:List i}:a∈b::c::d::e::f::g::a::l:=.tail _ m5
theorem m7{j:Type}{a b c d e f g i:j}{l:List j}:a∈b::c::d::e::f::g::i::a::l:=.tail _ m6
theorem St.old(S:St M h0 h L G){b o n:Nat}{l:List Value}(e:h0.load b o n=some l)(a: ¬M b):h.load b o n=some l:=by
 have:=S.fr.get b (a8 S.fr.ok0 e) a
 grind[Hp.load]
end
end Go.Ab

namespace Go.Ab

def pR(h:Hp)(X:Hp->Option (dl×Hp))(F:Nat->Value)(o:Ob):Prop:=
 ∃a,(∀x,X {h with lo:=x}=some (.val (F h.n),({h with lo:=x}:Hp).new a))/\(h.t.Sized h.n->Has (h.new a) h.n o)
section
variable{M:Nat->Prop}{h0 h:Hp}{L:List (Nat×Ob)}{G:List GL}
section
variable{E:Env}{cx:Cx}{o:Oper}{l:Loc}{K:Ex->Loc->Hp->Prop}{X:Hp->Option (dl×Hp)}{F:Nat->Value}{ob:Ob}
theorem ag(N:pR h X F ob)(S:St M h0 h L G)(c: ∀a b,St M h0 a ((b,ob)::L) G->h0.n<=b->K .normal (l.put o.dst (F b)) a):eZ E cx o l K (X h):=by
 obtain⟨d,f,g⟩:=N
 have e:X h=_:=f h.lo
 rw [e]
 exact c _ _ (S.new (g S.ok)) S.fr.n
theorem dS{cx:Cx}{Q:eF}{a:List Oper}{q:Nat}{ps:List (Nat×Nat)}{os:List Oper}{i:Nat}{k:List Fr}{c:List (Nat×Tch)}(N:pR h X F ob)(S:St M h0 h L G)
 (e: ∀d b,St M h0 d ((b,ob)::L) G->h0.n<=b->b=h.n->Run E (lim E) cx Q (.opsD a q ps os (i+1) c::k) .normal (l.put o.dst (F b)) d):DQ E cx Q a q ps o os i k l h c (X {h with lo:=h.n}):=by
 obtain⟨f,g,j⟩:=N
 rw [g]
 exact⟨zO (Xb _),e _ _ (S.new (j S.ok)) S.fr.n rfl⟩
end
theorem aZ{v:Value}{t:TypeId}(b: ∀x,v≠ .chan x):pR h (fun h=>boxR h t v) ptrTo (.row (ah v) 1):=by
 refine⟨.cells (Tr.ofList (ah v)) (ah v).length t 1,fun x=>?_,fun a=>pq a _ _ _⟩
 cases v<;>first|rfl|grind
theorem aw{z:List Value}{t:TypeId}:pR h (fun h=>allocR h t (some z)) ptrTo (.row z 1):=
 ⟨.cells (Tr.ofList z) z.length t 1,fun _=>rfl,fun a=>pq a _ _ _⟩
noncomputable def mapR(h:Hp):Option (dl×Hp):=some (.val (.map (some h.n)),h.new (.map [] 0))
theorem B2{E:Env}{ρ:Operand->Value}{h:Hp}{t:TypeId}:aop E ρ h (.makeMap t none)=mapR h:=rfl
theorem mI:pR h mapR (fun b=>.map (some b)) (.map [] 0):=⟨.map [] 0,fun _=>rfl,fun a=>by show(h.new _).get h.n=_;rw [h.get_new _ a,if_pos rfl]⟩
theorem zP(a:List Value): ∀n,(aV a n).length=n*a.length
 |0=>by simp [aV]
 |n+1=>by simp only [aV,Xo,zP a n];rw [Nat.succ_mul];omega
theorem row_blank{h:Hp}(a:h.t.Sized h.n)(z:Value)(n:Nat)(e:TypeId):Row (h.new (.cells (Tr.blank z n n) n e 1)) h.n (Xg n z) 1:=by
 refine⟨Tr.blank z n n,e,?_,?_,fun i=>?_⟩
 . rw [h.get_new _ a,if_pos rfl,Xv]
 . rw [Xv];exact Tr.sized_blank _ _ _ (Xb _)
 . rw [Tr.get_blank _ _ _ (Xb _),Xt]
def dZ(E:Env)(e:TypeId)(a k:Nat)(b:List Value):Prop:=(∃i,E.ty e=some i/\i.bytes=a/\i.size=k)/\E.zero e=some b/\b.length=k
theorem jW{E:Env}{t e:TypeId}{d k:Nat}{c:List Value}{kd kd':IntKind}{n:Int}(o:E.und t=some (.slice e))(u:dZ E e d k c)(h0:0<=n)(v:n.toNat*(d+1)<=70368744177664):
 pR h (fun h=>c5 (jc E h t (.int kd n) (.int kd' n))) (fun b=>.slice (some ⟨b,0,none⟩) n.toNat n.toNat) (.row (aV c n.toNat) 1):=by
 obtain⟨⟨i,p,rfl,rfl⟩,q,w⟩:=u
 obtain⟨m,rfl⟩:=Int.eq_ofNat_of_zero_le h0
 have hle:Xa (m*(i.bytes+1)) 70368744177664=true:=zO v
 have r:Xc c.length i.size=true:=by simp_all
 have f:natV (.int kd (m:Int))=some m:=rfl
 have g:natV (.int kd' (m:Int))=some m:=rfl
 have s:(Xa m m&&Xa (m*(i.bytes+1)) 70368744177664)=true:=by simp_all
 by_cases y: ∃z,c=[z]
 . obtain⟨z,rfl⟩:=y
   refine⟨.cells (Tr.blank z m m) m e 1,fun x=>?_,fun j=>?_⟩
   . simp only [jc,o,p,q,f,g,s,r,cond_true,c5]
     rfl
   . have:aV [z] (m:Int).toNat=Xg m z:=by
      have: ∀n,aV [z] n=Xg n z:=by intro n;induction n with
       |zero=>rfl
       |succ n A=>simp [aV,A,List.replicate_succ]
      exact this m
     rw [this]
     exact row_blank j z m e
 . refine⟨.cells (Tr.ofList (aV c m)) (m*i.size) e 1,fun x=>?_,fun j=>?_⟩
   . simp only [jc,o,p,q,f,g,s,r,cond_true]
     cases c with
     |nil=>rfl
     | cons a l=>
       cases l with
       |nil=>grind
       |cons b l=>rfl
   . have:=pq j (aV c m) e 1
     rw [zP,w]at this
     show Row _ _ (aV c m) 1
     omega

theorem St.store(S:St M h0 h L G){E:Env}{t:TypeId}{i b off n md:Nat}{s:Option Nat}{l:List Value}{v:Value}(d:L[i]? =some (b,.row l md))(j:E.sz t=some n)(k: ∀x,v≠ .chan x)(e:(ah v).length=n)
 (hf:(ah v).all kM=true) (f:off+n<=l.length) (a:md≠0): ∃c,iQ E h t (.pointer (some ⟨b,off,s⟩)) v=some c/\St M h0 c (L.set i (b,.row (lay l off (ah v)) md)) G/\Mo (· =b) h c:=by
 subst e
 obtain⟨x,m,g⟩:=(S.row (zM d)).store S.ok a (vs:=ah v) f hf
 refine⟨h.put b x,?_,S.put d g,(Mo.refl (M:=(· =b)) S.ok).put (.inr rfl) x⟩
 grind[iQ,Xc,ah,Xk]
section
variable{E:Env}{cx:Cx}{o:Oper}{l:Loc}{K:Ex->Loc->Hp->Prop}
theorem az{x:Option Hp}{P:Hp->Prop}(b: ∃a,x=some a/\P a)(c: ∀a,P a->K .normal (l.put o.dst (.tuple #[])) a):eZ E cx o l K (ep x):=by
 obtain⟨a,rfl,d⟩:=b
 exact c a d
theorem dM{x:Option (Hp×Value)}{P:Hp->Value->Prop}(b: ∃a v,x=some (a,v)/\P a v)(c: ∀a v,P a v->K .normal (l.put o.dst v) a):eZ E cx o l K (c5 x):=by
 obtain⟨a,v,rfl,d⟩:=b
 exact c a v d
theorem dw{cx:Cx}{Q:eF}{a:List Oper}{q:Nat}{ps:List (Nat×Nat)}{os:List Oper}{i:Nat}{k:List Fr}{c:Hp->List (Nat×Tch)}{x:Option Hp}{P:Hp->Prop}(d: ∃b,x=some b/\P b)
 (e: ∀b,P b->Run E (lim E) cx Q (.opsD a q ps os (i+1) (c b)::k) .normal (l.put o.dst (.tuple #[])) b):DN E cx Q a q ps o os i k l c (ep x):=by
 obtain⟨b,rfl,f⟩:=d
 exact e b f
theorem dn_v{cx:Cx}{Q:eF}{a:List Oper}{q:Nat}{ps:List (Nat×Nat)}{os:List Oper}{i:Nat}{k:List Fr}{c:Hp->List (Nat×Tch)}{x:Option (Hp×Value)}{P:Hp->Value->Prop}(d: ∃b v,x=some (b,v)/\P b v)
 (e: ∀b v,P b v->Run E (lim E) cx Q (.opsD a q ps os (i+1) (c b)::k) .normal (l.put o.dst v) b):DN E cx Q a q ps o os i k l c (c5 x):=by
 obtain⟨b,v,rfl,f⟩:=d
 exact e b v f
end

theorem pP{L:List (Nat×Ob)}{G:List GL}{j:Nat}{p c:GL}(i:(keys L G).Nodup)(d:G[j]? =some p){b:Nat}(e:ez c=some b)(a:b∉keys L G):(keys L (G.set j c)).Nodup:=by
 obtain⟨hlt,f⟩:=List.getElem?_eq_some_iff.1 d
 have k:G=G.take j++p::G.drop (j+1):=by rw [<-f,List.getElem_cons_drop hlt,List.take_append_drop]
 have g:G.set j c=G.take j++c::G.drop (j+1):=List.set_eq_take_append_cons_drop.trans (if_pos hlt)
 unfold keys at*
 rw [g,List.filterMap_append,List.filterMap_cons_some e,<-List.append_assoc]
 refine List.perm_middle.nodup_iff.2 (List.nodup_cons.2 ⟨fun l=>a ?_,?_⟩)
 . grind
 grind
theorem St.grow (S:St M h0 h L G) {E:Env} {t tx e:TypeId} {u k j m:Nat} {zs vs new:List Value} {v x:Value} (K:G[j]? =some (v,k,vs)) (hu:E.und t=some (.slice e)) (he:dZ E e u k zs) (N:0<u)
 (P:dJ E tx=some false) (af:aJ h k x=some (m,new)) (hm:m*k=new.length) (z:0<k) (hf:new.all kM=true) (Q:(vs.length+new.length)*(u+1)<=70368744177664) {ts:List TypeId}:
 ∃A v',dg E h (t::tx::ts) v x=some (A,v')/\St M h0 A L (G.set j (v',k,vs++new)):=by
 obtain⟨⟨i,hi,rfl,rfl⟩,hz,hl⟩:=he
 have hlt:=(List.getElem?_eq_some_iff.1 K).1
 obtain⟨hg,B⟩:=S.gown _ (zM K)
 have ai : ∀ a d,v=.slice a d d->d*i.size=vs.length->(a=none/\d=0\/ ∃b,a=some ⟨b,0,some i.size⟩/\Row h b vs 1)->
  ∃A v',eS E h e i a d d m new=some (A,v')/\St M h0 A L (G.set j (v',i.size,vs++new)):=by
  intro a d hv C ha
  by_cases f:m=0
  . subst f
    have:new=[]:=by
     grind
    subst this
    refine⟨h,v,?_,?_⟩
    . unfold eS
      rw [zO (by omega:d+0<=d)]
      grind
    . rw [List.append_nil]
      have:G.set j (v,i.size,vs)=G:=by
       refine List.ext_getElem? fun n=>?_
       grind
      grind
  . have ak : Xa (d+m) d=false:=by
     cases P:Xa (d+m) d with
     |false=>rfl
     |true=>exact absurd (Nat.le_of_ble_eq_true P) (by omega)
    have D:d+m<=vs.length+new.length:=by
     rw [<-C,<-hm]
     have f:=Xu d z
     have R:=Xu m z
     omega
    have O:(Xa ((d+m)*(i.bytes+1)) 70368744177664&&Xs 0 i.bytes)=true:=by
     rw [zO (Xl (Nat.mul_le_mul_right _ D) Q)]
     simp_all
    have al:Xc zs.length i.size=true:=by simp_all
    have r:eS E h e i a d d m new=ns h e i.size a d m new:=by
     unfold eS
     grind
    rw [r]
    rcases ha with⟨rfl,rfl⟩|⟨b,rfl,F⟩
    . have T:vs=[]:=by
       grind
      subst T
      refine⟨h.new (.cells (Tr.ofList new) new.length e 1),.slice (some ⟨h.n,0,some i.size⟩) m m,rfl,?_⟩
      have U:=S.call (Gr.new S.ok (.cells (Tr.ofList new) new.length e 1))
      have w:h.n∉keys L G:=fun z=>by have:=S.key_lt z;omega
      refine⟨U.fr,U.own,fun p o=>?_,pP S.apart K (b:=h.n) rfl w⟩
      rcases li o with rfl|⟨j',_,o⟩
      . exact⟨.inr ⟨h.n,m,rfl,hm,pq S.ok new e 1⟩,fun b N=>by cases N;exact .inl S.fr.n⟩
      . exact U.gown p (zM o)
    . obtain ⟨H,el,s,I,ax⟩:=F
      have V:jg H vs.length 0 (d*i.size) new=some (H.pushAll vs.length new,vs.length+new.length):=by
       grind[jg,Xk]
      refine⟨(h.put b .dead).new (.cells (H.pushAll vs.length new) (vs.length+new.length) e 1),.slice (some ⟨h.n,0,some i.size⟩) (d+m) (d+m),?_,?_⟩
      . unfold ns
        simp only [s,V,hf,Xk]
        rfl
      . have J:ez (v,i.size,vs)=some b:=by rw [hv];rfl
        have aL:=gy S.ok s
        have y:=(S.fr.put (B b J) .dead)
        have W: ∀c∈L.map Prod.fst,c≠b:=fun c X e=>by
         have f:=S.apart
         grind[keys,List.nodup_append,zM]
        have l: ∀c,c<h.n->c≠b->((h.put b .dead).new (.cells (H.pushAll vs.length new) (vs.length+new.length) e 1)).get c=h.get c:=fun c X Y=>by
         rw [Hp.get_new _ _ y.ok,if_neg (by show c≠h.n;omega)]
         exact cS (Ne.symm Y)
        have w:h.n∉keys L G:=fun z=>by have:=S.key_lt z;omega
        refine⟨y.new _,fun p o=>?_,fun p o=>?_,pP S.apart K (b:=h.n) rfl w⟩
        . have f:=S.own p o
          exact⟨f.1,f.2.of_get (l _ (f.2.lt S.ok) (W _ (Xw o)))⟩
        . rcases li o with rfl|⟨j',Z,o⟩
          . refine⟨.inr ⟨h.n,d+m,rfl,?_,?_⟩,fun b N=>by cases N;exact .inl S.fr.n⟩
            . grind
            . refine⟨H.pushAll vs.length new,e,?_,?_,fun n=>?_⟩
              . rw [Hp.get_new _ _ y.ok]
                rw [if_pos (show h.n=(h.put b .dead).n from rfl),Xo]
              . rw [Xo];exact Tr.sized_pushAll _ I
              grind[Tr.get_pushAll]
          . have f:=S.gown p (zM o)
            refine⟨f.1.of_get fun c X=>l c (f.1.lt S.ok X) fun e=>Z ?_,f.2⟩
            subst e
            -- two lists with a0 ad
            have R:=S.apart
            unfold keys at R
            have h3:=(List.nodup_append.1 R).2.1
            have a1: ∀(G:List GL) (a c:Nat) (p q:GL),(G.filterMap ez).Nodup->G[a]? =some p->G[c]? =some q-> ∀x,ez p=some x->ez q=some x->a=c:=by
             intro G
             induction G with
             |nil=>grind
             | cons g G ih=>
               grind
            grind
 unfold dg
 simp only [P]
 unfold jv
 simp only [hu,hi]
 rcases hg with⟨k1,k2⟩|⟨b,n,k1,k2,k3⟩
 . grind
 simp_all
end
end Go.Ab

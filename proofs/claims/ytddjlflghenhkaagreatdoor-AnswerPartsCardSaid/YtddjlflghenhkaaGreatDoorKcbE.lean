/- A deterministic evaluator of the model's code, and that the model follows it (part 5). -/
import Derived.Test.YtddjlflghenhkaaGreatDoorKcbD
import Derived.ChangeSame
import Derived.RowKit3
import Derived.JoinedOf
import Derived.KernelRfl
import Derived.WalkKit
import Derived.ProofKit
import Derived.OpenShut
import Derived.Carry
open Iff renaming rfl->zM
open List renaming mem_of_getElem?->zO,map_congr_left->Xg,replicate->Xh,getElem?_eq_some_iff->Xi,mem_cons_self->Xo,length_append->Xp,getElem?_map->Xq,drop_eq_getElem_cons->Xr,getElem?_append_left->Xs,getElem?_replicate->Xu,length_replicate->Xw,mem_map_of_mem->Xx
open Nat renaming ble_eq_true_of_le->Xa,ble->Xb,le_refl->Xc,beq->Xd,eq_of_beq_eq_true->Xe,beq_refl->Xl,le_trans->Xm,lt_or_ge->Xn,blt->Xt,le_mul_of_pos_right->Xv
open Bool renaming and_eq_true->Xf
open Array renaming getElem?_eq_getElem->Xj
open Option renaming map_eq_some_iff->Xk
set_option maxHeartbeats 400000
set_option linter.defProp false
set_option linter.unusedVariables false
set_option linter.unusedSimpArgs false
namespace Go.Ab
variable{b i id j md n q:Nat}
variable{args l vs:List Value}
variable{h h':Hp}
variable{a os:List Oper}
variable{v:Value}
variable{c x y:Operand}
variable{ops:Array Oper}
variable{o:Oper}
variable{ps:List (Nat×Nat)}
variable{P:Program}
variable{f:FuncId}
variable{E:Env}
variable{op:Op}
variable{ρ:Operand->Value}
variable{cx:Cx}
variable{e s t:TypeId}
variable{m:Int}
variable{k:IntKind}
variable{W:World}
variable{M:Nat->Prop}
def tabF:Nat->Nat->(Nat->Value)->Tr Value
 |0,_,_=>.nil| f+1,n,a=>match n with
   |0=>.nil|k+1=>.node (a 0) (tabF f ((k+1)/2) fun i=>a (2*i+1)) (tabF f (k/2) fun i=>a (2*i+2))
def tab(n:Nat)(ρ:Nat->Value):Tr Value:=tabF n n ρ
theorem get_tabF(f n:Nat)(ρ:Nat->Value)(h:n<=f)(j:Nat):(tabF f n ρ).get j=if j<n then some (ρ j)else none:=by
 induction f generalizing n j ρ with
 |zero=>grind[tabF,Tr.get_nil]| succ f a=>
   cases n with
   |zero=>rfl| succ k=>simp only [tabF];rw [Tr.get_node];grind
theorem oz(n:Nat)(ρ:Nat->Value)(j:Nat):(tab n ρ).get j=if j<n then some (ρ j)else none:=get_tabF n n ρ (Xc _) j
theorem Tr.ext{d:Type}{t t':Tr d}(h: ∀i,t.get i=t'.get i):t=t':=by
 induction t generalizing t' with
 | nil=>
   cases t' with
   |nil=>rfl|node y l r=>have:=h 0;simp [Tr.get_nil,Tr.get_node]at this
 | node x l r a b=>
   cases t' with
   |nil=>have:=h 0;simp [Tr.get_nil,Tr.get_node]at this| node y e f=>
     have c:=h 0;simp [Tr.get_node]at c;subst c;rw [a (t':=e) (fun i=>by have:=h (2*i+1);simp_all[Tr.get_node,if_pos]),
      b (t':=f) (fun i=>by have:=h (2*i+2);simp only [Tr.get_node]at this;grind)]
def aD(ρ:Nat->Value)(t:Nat)(v:Value):Nat->Value:=fun i=>if i=t then v else ρ i
theorem aC(ρ:Nat->Value)(t:Nat)(v:Value)(i:Nat):aD ρ t v i=if i=t then v else ρ i:=rfl
theorem tab_set(n:Nat)(ρ:Nat->Value)(t:Nat)(v:Value):(tab n ρ).set t v=tab n (aD ρ t v):=by
 apply Tr.ext;intro i;rw [Tr.get_set,oz,oz];by_cases a:i<n
 . by_cases e:t=i
   . subst e;simp [a,aD]
   . simp [a,e,aD,Ne.symm e]
 . simp [a]
def c8:List Value->Nat->Value
 | [],_=>.tuple #[]| v::l,i=>match i with
   |0=>v|i+1=>c8 l i
theorem argR_eq(l:List Value)(i:Nat):c8 l i=(l[i]?).getD (.tuple #[]):=by
 induction l generalizing i with
 |nil=>rfl| cons v l a=>cases i with
   |zero=>rfl|succ i=>simp [c8,a]
theorem args_tab(h:args.length<=n):(Tr.blank (.tuple #[]) n n:Tr Value).setAll 0 args=tab n (c8 args):=by apply Tr.ext;intro i;rw [Tr.get_setAll _ 0 args n (Tr.sized_blank _ _ _ (Xc _)) (by omega),oz,Tr.get_blank _ _ _ (Xc _),argR_eq];grind
def LL(n:Nat)(ρ:Nat->Value)(d:List Deferred)(a:Option (Value×Bool)):Loc:=⟨tab n ρ,d,a⟩
theorem bS(n:Nat)(ρ:Nat->Value)(d:List Deferred)(a:Option (Value×Bool))(t:Nat)(v:Value):(LL n ρ d a).put (some t) v=LL n (aD ρ t v) d a:=by simp only [LL,Loc.put,tab_set]
theorem ll_put0(l:Loc)(v:Value):l.put none v=l:=rfl
theorem bG(n:Nat)(ρ:Nat->Value)(d:List Deferred)(a:Option (Value×Bool))(t:Nat)(h:t<n):(LL n ρ d a).ev (.tmp t)=ρ t:=by simp only [LL,Loc.ev,oz,if_pos h]
theorem ll_func(l:Loc)(f:Nat):l.ev (.func f)=.func (.func f) #[] #[]:=rfl
theorem ll_regs(n:Nat)(ρ:Nat->Value)(d:List Deferred)(a:Option (Value×Bool)):(LL n ρ d a).regs=tab n ρ:=rfl
def Then(x:Option (Ex×Loc×Hp))(K:Ex->Loc->Hp->Prop):Prop:= ∃e l h,x=some (e,l,h)/\K e l h
theorem jB{e:Ex}{l:Loc}{K:Ex->Loc->Hp->Prop}:Then (some (e,l,h)) K↔K e l h:=by
 constructor
 . intro⟨_,_,_,h1,a⟩;grind
 . intro a;exact⟨_,_,_,rfl,a⟩
abbrev gL:=Ex->Loc->Hp->Prop
inductive Fr where
 |code (c:Code)
 |blk (id:Nat)
 |ops (all os:List Oper)
 |opsD (all:List Oper) (q:Nat) (ps:List (Nat×Nat)) (os:List Oper) (i:Nat) (tr:List (Nat×Tch))
 |kill (t:Tmp)
section
variable(E:Env)(R:Rec)(cx:Cx)(Q:gL)
def Run:List Fr->Ex->Loc->Hp->Prop
 | [],e,l,h=>Q e l h| .code c::k,.normal,l,h=> ∃g d f,aV E R cx c l h=some (g,d,f)/\Run k g d f| .ops a m::k,.normal,l,h=> ∃g d f,jg E R cx a m l h=some (g,d,f)/\Run k g d f| .opsD a q n m i o::k,.normal,l,h=> ∃d f j,cd E R a q m i l h o=some (d,f,j)/\c7 j n=true/\Run k .normal d f| .kill t::k,.normal,l,h=> ∃b p c,l.ev (.tmp t)=.map (some b)/\h.get b=some (.map p c)/\Run k .normal l (h.put b .dead)| .blk _::k,.normal,l,h=>Run k .normal l h| .blk id::k,.exit i,l,h=>if i=id then Run k .normal l h else Run k (.exit i) l h
 |_::k,.exit i,l,h=>Run k (.exit i) l h|_::k,.ret,l,h=>Run k .ret l h|_::k,.pan v,l,h=>Run k (.pan v) l h
end
section
variable{E:Env}{R:Rec}{cx:Cx}{Q:gL}{k:List Fr}{l:Loc}{h:Hp}
theorem run_nil{e:Ex}:Run E R cx Q [] e l h↔Q e l h:=zM
theorem run_skip:Run E R cx Q (.code .skip::k) .normal l h↔Run E R cx Q k .normal l h:=by simp only [Run,aV];exact jB
theorem run_seq{a b:Code}:Run E R cx Q (.code (.seq a b)::k) .normal l h↔Run E R cx Q (.code a:: .code b::k) .normal l h:=by
 simp only [Run,aV];constructor
 . intro⟨e',l',h',c,h2⟩;cases e:aV E R cx a l h with
   |none=>grind| some q=>
     obtain⟨x,f,d⟩:=q;rw [e]at c;refine⟨x,f,d,rfl,?_⟩;cases x with
     |normal=>exact⟨e',l',h',c,h2⟩|exit i=>cases c;exact h2
     |ret=>cases c;exact h2
     |pan v=>cases c;exact h2
 . intro⟨x,f,d,e,h2⟩;rw [e];cases x with
   |normal=>exact h2|exit i=>exact⟨_,_,_,rfl,h2⟩|ret=>exact⟨_,_,_,rfl,h2⟩|pan v=>exact⟨_,_,_,rfl,h2⟩
theorem run_block  {b:Code}:Run E R cx Q (.code (.block id b)::k) .normal l h↔Run E R cx Q (.code b:: .blk id::k) .normal l h:=by
 simp only [Run,aV];constructor
 . intro ⟨e',l',h',a,h2⟩;cases e:aV E R cx b l h with
   |none=>grind| some q=>
     obtain⟨x,f,c⟩:=q;rw [e]at a;refine⟨x,f,c,rfl,?_⟩;cases x with
     |normal=>cases a;exact h2
     | exit i=>
       simp only []at a;cases d:Xd i id with
       |true=>simp_all[Xe,Run,if_true]| false=>
         rw [d]at a;cases a;simp only [Run];rw [if_neg (by grind[Xl])];exact h2
     |ret=>cases a;exact h2
     |pan v=>cases a;exact h2
 . intro⟨x,f,c,e,h2⟩;rw [e];cases x with
   |normal=>exact⟨_,_,_,rfl,h2⟩| exit i=>
     simp only [Run]at h2;simp only [];by_cases d:i=id
     . subst d;rw [if_pos rfl]at h2;rw [Xl];grind
     . rw [if_neg d]at h2;have:Xd i id=false:=(by grind[Xd,id,absurd,Xe]);grind
   |ret=>exact⟨_,_,_,rfl,h2⟩|pan v=>exact⟨_,_,_,rfl,h2⟩
theorem run_scope{b:Code}:Run E R cx Q (.code (.scope b)::k) .normal l h↔Run E R cx Q (.code b::k) .normal l h:=zM
theorem run_blk:Run E R cx Q (.blk id::k) .normal l h↔Run E R cx Q k .normal l h:=zM
theorem run_exit:Run E R cx Q (.code (.exit id)::k) .normal l h↔Run E R cx Q k (.exit id) l h:=by simp only [Run,aV];exact jB
theorem run_ret:Run E R cx Q (.code .ret::k) .normal l h↔Run E R cx Q k .ret l h:=by simp only [Run,aV];exact jB
theorem BK:Run E R cx Q (.blk id::k) (.exit i) l h↔if i=id then Run E R cx Q k .normal l h else Run E R cx Q k (.exit i) l h:=zM
theorem AX{c:Code}:Run E R cx Q (.code c::k) (.exit i) l h↔Run E R cx Q k (.exit i) l h:=zM
theorem CT:Run E R cx Q (.ops a os::k) (.exit i) l h↔Run E R cx Q k (.exit i) l h:=zM
theorem DK{f:Fr}:Run E R cx Q (f::k) .ret l h↔Run E R cx Q k .ret l h:=by cases f<;>exact zM
theorem ER{f:Fr}:Run E R cx Q (f::k) (.pan v) l h↔Run E R cx Q k (.pan v) l h:=by cases f<;>exact zM
theorem run_cond{a b:Code}:Run E R cx Q (.code (.cond c a b)::k) .normal l h↔ ∃t,l.ev c=.bool t/\if t=true then Run E R cx Q (.code a::k) .normal l h else Run E R cx Q (.code b::k) .normal l h:=by simp only [Run,aV];grind
theorem DU:Run E R cx Q (.code (.region id ops false)::k) .normal l h↔Run E R cx Q (.ops ops.toList ops.toList::k) .normal l h:=by rfl
theorem Dn:Run E R cx Q (.ops a []::k) .normal l h↔Run E R cx Q k .normal l h:=by simp only [Run,jg];exact jB
theorem CM:Run E R cx Q (.ops a (o::os)::k) .normal l h↔ ∃b,cQ a l.regs o=some b/\
 (if b=true then Then (eZ E R cx o l h) fun e l' h'=>Run E R cx Q (.ops a os::k) e l' h' else Run E R cx Q (.ops a os::k) .normal (l.put o.dst (.tuple #[])) h):=by
 simp only [Run,jg];constructor
 . intro ⟨e',l',h',d,c⟩;cases g:cQ a l.regs o with
   |none=>grind| some b=>
     rw [g]at d;refine⟨b,rfl,?_⟩;cases b with
     |false=>grind| true=>
       rw [if_pos rfl];simp only []at d;cases j:eZ E R cx o l h with
       |none=>grind| some q=>
         obtain⟨x,m,f⟩:=q;rw [j]at d;refine⟨x,m,f,rfl,?_⟩;cases x with
         |normal=>exact⟨e',l',h',d,c⟩|exit i=>cases d;exact c
         |ret=>cases d;exact c
         |pan v=>cases d;exact c
 . intro⟨b,g,c⟩;rw [g];cases b with
   |false=>grind| true=>
     rw [if_pos rfl]at c;obtain⟨x,m,f,j,c⟩:=c;simp only [j];cases x with
     |normal=>exact c|exit i=>exact⟨_,_,_,rfl,c⟩|ret=>exact⟨_,_,_,rfl,c⟩|pan v=>exact⟨_,_,_,rfl,c⟩
theorem run_draw(a:E.cut cx.fn=false)(b:cB ops.toList=os)(c:j8 E os=some (q,ps)):Run E R cx Q (.code (.region id ops true)::k) .normal l h↔Run E R cx Q (.opsD os q ps os 0 []::k) .normal l h:=by simp only [Run,aV,cond_true,a,cond_false,b,c];grind
theorem run_split(a:E.cut cx.fn=true)(b:lH ops.toList (ops.toList.length-1)=true)(hf:uX E ops.toList=false)(c:cutN ops.toList=n)(d:cB (ops.toList.take n)=os)(e:j8 E os=some (q,ps))
 (f:Run E R cx Q (.opsD os q ps os 0 []:: .ops ops.toList (ops.toList.drop n)::k) .normal l h):Run E R cx Q (.code (.region id ops true)::k) .normal l h:=by
 obtain⟨o,p,g,i,j,r,s,t,m,u⟩:=f;simp only [Run,aV,cond_true,a,cutD,hf,cond_false,us,b,c,d,e,i,j];grind
theorem CA{b:List (Nat×Tch)}:Run E R cx Q (.opsD a q ps [] i b::k) .normal l h↔c7 b ps=true/\Run E R cx Q k .normal l h:=by simp only [Run,cd];grind
theorem AW{c:List (Nat×Tch)}:Run E R cx Q (.opsD a q ps (o::os) i c::k) .normal l h↔ ∃b,cQ a l.regs o=some b/\
 (if b=true then∃v h',dk E R (l.evD (tmpsOf o.op.operands.toList)) (fS E q i o.op) o h=some (v,h')/\
     Run E R cx Q (.opsD a q ps os (i+1) (iS i c (cV (l.evD (tmpsOf o.op.operands.toList)) (fS E q i o.op) o.op h h'))::k) .normal (l.put o.dst v) h'
   else Run E R cx Q (.opsD a q ps os (i+1) c::k) .normal (l.put o.dst (.tuple #[])) h):=by
 simp only [Run,cd];grind
end
noncomputable def envOf(a:Tr Func)(b:Tr TypeInfo)(c:List Nat):Env:={fn:=fun f=>a.get f,ty:=fun t=>b.get t,eqok:=fun t=>pg t c}
theorem Bv{b:Func}(hf:P.funcs[f]? =some b)(e:b.body.isSome=true)(c:(b.name== "runtime.NumGoroutine")=false)(args:Array Value)(w:World):
 (callFunc f args).run P w=.ok (.enter f args) w:=by
 have a:b.body.isNone=false:=by cases h:b.body<;>simp_all
 unfold callFunc;have d:program.run P w=.ok P w:=rfl;simp only [Sem.run_bind,d,Result.andThen_ok,hf,c,a,Bool.false_eq_true,if_false,Sem.run_pure]
theorem eok_of{fns:Tr Func}{tys:Tr TypeInfo}{eqs:List Nat}(h1:fns=Tr.ofList P.funcs.toList)(h2:tys=Tr.ofList P.types.toList)
 (h3:(P.funcs.toList.all fun fn=>fn.body.isNone|| !(fn.name== "runtime.NumGoroutine"))=true) (h4:(eqs.all fun t=>!P.stoodInHeld t&& !P.eqGuardType P.depth t)=true)
 (h5:P.follows .mixedOrders=true):EOk (envOf fns tys eqs) P where
 fn:=by intro f fn h;have h':fns.get f=some fn:=h;rw [h1,Tr.get_ofList]at h';simpa using h'
 call:=by
  intro f fn args w h hb;have h':fns.get f=some fn:=h;rw [h1,Tr.get_ofList]at h';have hm:=zO h';have:=(List.all_eq_true.1 h3) fn hm;refine Bv (by simpa using h') hb ?_ args w;cases hn:(fn.name== "runtime.NumGoroutine")with
  |false=>rfl|true=>rw [hn]at this;cases hx:fn.body<;>simp_all
 ty:=by
  intro t i h;have h':tys.get t=some i:=h;rw [h2,Tr.get_ofList]at h';show P.toTables.info? t=some i;have hk:P.types[t]? =some i:=by simpa using h'
  unfold Tables.info?;rw [if_pos (Array.getElem?_eq_some_iff.1 hk).1];exact hk
 eq:=by intro t h;have hm:t∈eqs:=(px t eqs).1 h;have:=(List.all_eq_true.1 h4) t hm;simp only [Xf,Bool.not_eq_true']at this;exact this
 mixed:=h5
 orc:=by intro g args v h;cases h
noncomputable def zH(E:Env)(o:Nat->List Value->Option Value):Env:={E with orc:=o}
noncomputable def withCut(E:Env)(c:Nat->Bool):Env:={E with cut:=c}
theorem eok_cut(ok:EOk E P)(c:Nat->Bool):EOk (withCut E c) P where
 fn:=ok.fn
 call:=ok.call
 ty:=ok.ty
 eq:=ok.eq
 mixed:=ok.mixed
 orc:=ok.orc
theorem eok_with(ok:EOk E P){o:Nat->List Value->Option Value}(ho: ∀g args v,o g args=some v->(∃fn,E.fn g=some fn/\fn.body.isSome=true)/\OrcAt P g args v):EOk (zH E o) P where
 fn:=ok.fn
 call:=ok.call
 ty:=ok.ty
 eq:=ok.eq
 mixed:=ok.mixed
 orc:=ho
section
open Go.ChangeShapes Go.WideShapes
variable{H:Type}{enc:TypeId×Value->H}{P:Program}
end
def eJ(E:Env)(f:FuncId)(args:List Value)(c:Option (Value×Bool))(h:Hp)(Q:Out->Option (Value×Bool)->Hp->Prop):Prop:= ∃o a b,(lim E).call f args c h=some (o,a,b)/\Q o a b
def Ret(E:Env)(f:FuncId)(args:List Value)(h:Hp)(Q:Value->Hp->Prop):Prop:= ∃v a,(lim E).call f args none h=some (.ret v,none,a)/\Q v a
theorem Ret.mono{Q Q':Value->Hp->Prop}(k: ∀v h',Q v h'->Q' v h')(r:Ret E f args h Q):Ret E f args h Q':=by obtain⟨v,h',a,b⟩:=r;exact⟨v,h',a,k v h' b⟩
def nu(E:Env)(b:Nat)(args:List Value)(h:Hp)(Q:Out->Hp->Prop):Prop:= ∃o a,kw E (lim E) b args h=some (o,a)/\Q o a
section
variable(E:Env)(cx:Cx)(o:Oper)(l:Loc)(K:Ex->Loc->Hp->Prop)
def hU:Option (dT×Hp)->Prop
 |some (.val v,a)=>K .normal (l.put o.dst v) a|some (.skip,a)=>K .normal (l.put o.dst (.tuple #[])) a| some (.call f c,a)=>eJ E f c none a fun x _ e=>match x with
   | .ret v=>K .normal (l.put o.dst v) e| .pan v=>K (.pan v) l e
 | some (.yield b c,a)=>nu E b c a fun x e=>match x with
   | .ret v=>K .normal (l.put o.dst v) e| .pan v=>K (.pan v) l e
 |some (.panic v,a)=>K (.pan v) l a| some (.recov,a)=>cx.round=none/\match l.rc with
   |some (v,false)=>K .normal (({l with rc:=some (v,true)}:Loc).put o.dst v) a
   |_=>K .normal (l.put o.dst .nilIface) a
 |some (.defer d,a)=>cx.round=none/\K .normal (({l with dfs:=d::l.dfs}:Loc).put o.dst (.tuple #[])) a
 |none=>False
end
section
variable{E:Env}{cx:Cx}{o:Oper}{l:Loc}{K:Ex->Loc->Hp->Prop}{h:Hp}
theorem then_step:Then (eZ E (lim E) cx o l h) K↔hU E cx o l K (aop E l.ev h o.op):=by
 unfold eZ;cases p:aop E l.ev h o.op with
 | none=>
   simp only [hU,dD,pO];exact⟨fun⟨_,_,_,i,_⟩=>(by cases i),fun h=>h.elim⟩
 | some q=>
   obtain⟨m,i⟩:=q;cases m with
   |val v=>exact jB|skip=>exact jB|panic v=>exact jB| call f g=>
     simp only [hU,dD,eJ];constructor
     . intro⟨e,l',h',a,b⟩;cases j:(lim E).call f g none i with
       |none=>rw [j]at a;cases a
       | some q=>
         obtain⟨x,n,k⟩:=q;rw [j]at a;cases x<;>(cases a;grind)
     . intro⟨x,n,k,a,b⟩;rw [a];cases x<;>exact⟨_,_,_,rfl,b⟩
   | yield b g=>
     simp only [hU,dD,nu];constructor
     . intro⟨e,l',h',a,c⟩;cases j:kw E (lim E) b g i with
       |none=>rw [j]at a;cases a
       | some q=>
         obtain⟨x,k⟩:=q;rw [j]at a;cases x<;>(cases a;grind)
     . intro⟨x,k,a,c⟩;rw [a];cases x<;>exact⟨_,_,_,rfl,c⟩
   | recov=>
     simp only [hU];cases cx.round with
     |some r=>simp only [];exact⟨fun⟨_,_,_,i,_⟩=>(by cases i),fun h=>(by cases h.1)⟩
     | none=>simp only [true_and];grind[jB]
   | defer d=>
     simp only [hU];cases cx.round with
     |some r=>simp only [];exact⟨fun⟨_,_,_,i,_⟩=>(by cases i),fun h=>(by cases h.1)⟩
     |none=>simp only [true_and];exact jB
theorem AU:hU E cx o l K (some (.val v,h))↔K .normal (l.put o.dst v) h:=zM
theorem zx:hU E cx o l K (some (.skip,h))↔K .normal (l.put o.dst (.tuple #[])) h:=zM
theorem zk:hU E cx o l K (some (.panic v,h))↔K (.pan v) l h:=zM
theorem step_ret{Q:Value->Hp->Prop}(c:Ret E f args h Q)(d: ∀v h',Q v h'->K .normal (l.put o.dst v) h'):hU E cx o l K (some (.call f args,h)):=by obtain⟨v,h',a,b⟩:=c;exact⟨.ret v,none,h',a,d v h' b⟩
end
def qC(E:Env)(rs:List ResultVar)(Q:Out->Option (Value×Bool)->Hp->Prop):gL
 | .exit _,_,_=>False| .pan v,l,h=> ∃m a,cP (lim E) l.dfs (some v) h=some (m,a)/\match m with
   |some v=>Q (.pan v) l.rc a|none=> ∃b,bW E l.regs a rs=some b/\Q (.ret (ab b)) l.rc a
 | .normal,l,h=> ∃a,cP (lim E) l.dfs none h=some (none,a)/\ ∃b,bW E l.regs a rs=some b/\Q (.ret (ab b)) l.rc a| .ret,l,h=> ∃a,cP (lim E) l.dfs none h=some (none,a)/\ ∃b,bW E l.regs a rs=some b/\Q (.ret (ab b)) l.rc a
theorem enter{k:Func}{body:Code}{rs:List ResultVar}{o:Option (Value×Bool)}{Q:Out->Option (Value×Bool)->Hp->Prop}
 (r:E.orc f args=none) (hf:E.fn f=some k) (s:k.body=some body) (t:k.ntmps=n) (p:k.results.toList=rs) (hle:args.length<=n)
 (u:Run E (lim E) ⟨f,n,none⟩ (qC E rs Q) [.code body] .normal (LL n (c8 args) [] o) h):eJ E f args o h Q:=by
 obtain⟨e,l,w,x,j⟩:=u;simp only [Run]at j;unfold eJ;rw [call_eq];unfold jE;rw [r];simp only [];unfold mi;rw [hf];simp only [];rw [s];simp only [];rw [t,Xa hle];simp only [cond_true];rw [args_tab hle];have g:(lim E).code ⟨f,n,none⟩ body ⟨tab n (c8 args),[],o⟩ h=some (e,l,w):=by rw [zt];exact x
 rw [g,p];cases e with
 |exit i=>exact j.elim| pan v=>
   obtain⟨m,q,a,b⟩:=j;grind
 |normal=>obtain⟨q,a,y,c,d⟩:=j;grind
 |ret=>obtain⟨q,a,y,c,d⟩:=j;grind
def RetQ(Q:Value->Hp->Prop):Out->Option (Value×Bool)->Hp->Prop
 | .ret v,none,h=>Q v h|_,_,_=>False
theorem ret_of{Q:Value->Hp->Prop}(hq:eJ E f args none h (RetQ Q)):Ret E f args h Q:=by
 obtain⟨o,c,d,a,b⟩:=hq;cases o with
 |pan v=>exact b.elim| ret v=>cases c with
   |none=>exact⟨v,d,a,b⟩|some y=>exact b.elim
theorem aa{a:Func}{body:Code}{rs:List ResultVar}{Q:Value->Hp->Prop}
 (c:E.orc f args=none) (hf:E.fn f=some a) (d:a.body=some body) (e:a.ntmps=n) (b:a.results.toList=rs) (hle:args.length<=n)
 (g:Run E (lim E) ⟨f,n,none⟩ (qC E rs (RetQ Q)) [.code body] .normal (LL n (c8 args) [] none) h):Ret E f args h Q:=ret_of (enter c hf d e b hle g)
theorem ret_orc{Q:Value->Hp->Prop}(a:E.orc f args=some v)(hq:Q v h):Ret E f args h Q:=by refine⟨v,h,?_,hq⟩;rw [call_eq];unfold jE;rw [a]
section
variable{E:Env}{rs:List ResultVar}{Q:Value->Hp->Prop}{n:Nat}{ρ:Nat->Value}{h:Hp}
theorem Ay:qC E rs (RetQ Q) .ret (LL n ρ [] none) h↔ ∃vs,bW E (tab n ρ) h rs=some vs/\Q (ab vs) h:=by
 simp only [qC,LL,cP];constructor
 . intro⟨h',a,b⟩;cases a;exact b
 . intro b;exact⟨h,rfl,b⟩
theorem Ct:qC E rs (RetQ Q) .normal (LL n ρ [] none) h↔ ∃vs,bW E (tab n ρ) h rs=some vs/\Q (ab vs) h:=Ay
theorem cg{P:List Value->Prop}:(∃vs,bW E (tab n ρ) h []=some vs/\P vs)↔P []:=by simp only [bW];grind
theorem eo{t:Tmp}{P:List Value->Prop}(a:t<n):(∃vs,bW E (tab n ρ) h (.tmp t::rs)=some vs/\P vs)↔ ∃vs,bW E (tab n ρ) h rs=some vs/\P (ρ t::vs):=by simp only [bW,oz,if_pos a];grind
theorem bF{t:Tmp}{ty:TypeId}{P:List Value->Prop}(a:t<n)(b:gm E h ty (ρ t)=some v):(∃vs,bW E (tab n ρ) h (.cell t ty::rs)=some vs/\P vs)↔ ∃vs,bW E (tab n ρ) h rs=some vs/\P (v::vs):=by simp only [bW,oz,if_pos a,b];grind
end
structure Gr(h h':Hp):Prop where
 ok0:OZ h
 ok:OZ h'
 n:h.n<=h'.n
 get: ∀b,b<h.n->h'.get b=h.get b
 lo: ∀x,x<=h.n->x<=h.lo->x<=h'.lo
theorem Gr.refl(a:OZ h):Gr h h:=⟨a,a,Xc _,fun _ _=>rfl,fun _ _ h=>h⟩
theorem Gr.trans{a b c:Hp}(x:Gr a b)(y:Gr b c):Gr a c:=
 ⟨x.ok0,y.ok,Xm x.n y.n,fun i d=>(y.get i (Nat.lt_of_lt_of_le d x.n)).trans (x.get i d),fun i e f=>y.lo i (Xm e x.n) (x.lo i e f)⟩
theorem new_ok(a:OZ h)(x:Blk):(h.new x).t.Sized (h.new x).n:=Tr.sized_push x a
theorem put_ok(a:OZ h)(b:Nat)(x:Blk):(h.put b x).t.Sized (h.put b x).n:=Tr.sized_set b x a
theorem Gr.new{h:Hp}(a:OZ h)(x:Blk):Gr h (h.new x):=
 ⟨a,new_ok a x,Nat.le_succ _,fun b c=>by rw [h.get_new x a,if_neg (by omega)],fun _ _ h=>h⟩
theorem iz(a:OZ h){x:Blk}(e:h.get b=some x):b<h.n:=(a b).1 (by show(h.get b).isSome=true;rw [e];rfl)
theorem Gr.at(g:Gr h h'){x:Blk}(e:h.get b=some x):h'.get b=some x:=by rw [g.get b (iz g.ok0 e)];exact e
theorem bC(a:OZ h){o:Nat}(e:h.load b o n=some l):b<h.n:=by
 unfold Hp.load at e
 split at e
 next c=>exact iz a c
 next=>cases e
theorem Gr.load{h h':Hp}(g:Gr h h'){b o n:Nat}{l:List Value}(e:h.load b o n=some l):h'.load b o n=some l:=by have:=g.get b (bC g.ok0 e);grind[Hp.load]
theorem Gr.hlo(g:Gr {h with lo:=h.n} h'):Xb h.n h'.lo=true:=Xa (g.lo h.n (Xc _) (Xc _))
def Row(h:Hp)(b:Nat)(l:List Value)(md:Nat):Prop:= ∃t a,h.get b=some (.cells t l.length a md)/\t.Sized l.length/\ ∀i:Nat,t.get i=l[i]?
theorem Row.gr(g:Gr h h')(r:Row h b l md):Row h' b l md:=by obtain⟨t,d,a,b,c⟩:=r;exact⟨t,d,g.at a,b,c⟩
theorem Row.lt(c:OZ h)(r:Row h b l md):b<h.n:=by obtain⟨t,d,a,_,_⟩:=r;exact iz c a
theorem Bf{a:Type}{t:Tr a}{l:List a}(b: ∀i:Nat,t.get i=l[i]?): ∀(n o:Nat),o+n<=l.length->t.slice o n=some ((l.drop o).take n)
 |0,o,_=>by simp [Tr.slice]| n+1,o,h=>by simp only [Tr.slice];have:l[o]? =some l[o]:=List.getElem?_eq_getElem (by omega);rw [b o,this,Bf b n (o+1) (by omega)];simp only [];congr 1;rw [show List.drop o l=l[o]::List.drop (o+1) l from Xr (by omega)];rfl
theorem Row.load{h:Hp}{b:Nat}{l:List Value}{md:Nat}(r:Row h b l md){o n:Nat}(d:o+n<=l.length):h.load b o n=some ((l.drop o).take n):=by obtain⟨t,e,a,_,c⟩:=r;grind[Hp.load,Xa,Bf]
theorem Row.load1(r:Row h b l md){o:Nat}(a:l[o]? =some v):h.load b o 1=some [v]:=by have hlt:=(List.getElem?_eq_some_iff.1 a).1;rw [r.load (by omega)];grind[Xr,Xi]
theorem qR(a:OZ h)(l:List Value)(el md:Nat):Row (h.new (.cells (Tr.ofList l) l.length el md)) h.n l md:=
 ⟨Tr.ofList l,el,by rw [h.get_new _ a,if_pos rfl],Tr.sized_ofList l,fun i=>Tr.get_ofList l i⟩
def lay(l:List Value)(o:Nat)(vs:List Value):List Value:=l.take o++vs++l.drop (o+vs.length)
theorem qD{o:Nat}(h:o+vs.length<=l.length):(lay l o vs).length=l.length:=by simp [lay];omega
theorem lu{o:Nat}(h:o+vs.length<=l.length)(i:Nat):(lay l o vs)[i]? =if o<=i/\i<o+vs.length then vs[i-o]? else l[i]? :=by
 unfold lay;by_cases a:i<o
 . grind
 grind
theorem Row.store{h:Hp}(j:OZ h){b:Nat}{l:List Value}{md:Nat}(r:Row h b l md)(g:md≠0){o:Nat}{vs:List Value}(e:o+vs.length<=l.length)(k:vs.all mO=true):
 ∃x,h.store b o vs=some (h.put b x)/\Row (h.put b x) b (lay l o vs) md:=by
 obtain⟨t,f,a,d,c⟩:=r;refine⟨.cells (t.setAll o vs) l.length f md,?_,?_⟩
 . grind[Hp.store,Xd,absurd,Xe,Xa]
 . refine⟨t.setAll o vs,f,?_,?_,fun i=>?_⟩
   . rw [Hp.get_put,if_pos ⟨rfl,by rw [a];rfl⟩,qD e]
   . rw [qD e];exact Tr.sized_setAll o vs d
   grind[Tr.get_setAll,lu]
theorem pop_ext{d:Operand->Value}(e: ∀x∈op.operands.toList,ρ x=d x):pop E ρ op=pop E d op:=by
 cases op
 case build t g=>grind[pop,Xg,Op.operands]
 case makeFunc f a b=>
  cases f<;>(try rfl);grind[pop,Array.map_congr_left,Op.operands]
 case slice t x l h m=>
  simp only [pop];have i:=e x (by simp [Op.operands]);have j:l.map ρ=l.map d:=by cases l with|none=>rfl|some y=>simp [e y (by simp [Op.operands])]
  have k:h.map ρ=h.map d:=by cases h with|none=>rfl|some y=>simp [e y (by simp [Op.operands])]
  have n:m.map ρ=m.map d:=by cases m with|none=>rfl|some y=>simp [e y (by simp [Op.operands])]
  grind
 case call c=>
  have o:c.args.toList.map ρ=c.args.toList.map d:=by grind[Xg,Op.operands,Call.operands]
  grind[pop,invoke,builtin,Xo,Op.operands,Call.operands]
 all_goals (try rfl)
 all_goals first
  |(unfold Op.operands at e;simp at e;simp only [pop];simp [e];done)
  |(simp only [pop];done)
  |(cases ‹Fn› <;>simp only [pop];done)
theorem wg{a:Operand->Value}(e: ∀x∈op.operands.toList,ρ x=a x):aop E ρ h op=aop E a h op:=by
 have d:=pop_ext (E:=E) e;cases op
 case buildSlice t n j=>grind[aop,Xg,Op.operands]
 case makeMap t r=>cases r<;>simp only [aop,d]
 case call c=>
  have i:c.args.toList.map ρ=c.args.toList.map a:=by grind[Xg,Op.operands,Call.operands]
  have k: ∀x∈c.args.toList,ρ x=a x:=by simp_all
  cases g:c.callee with
  | value f=>grind[hf,Op.operands,Call.operands,aop]|invoke r n=>simp only [aop,g]| builtin b=>
    cases b<;>simp only [aop,g,d]<;>(try rfl)
    all_goals grind
 case defer c=>
  have i:c.args.toList.map ρ=c.args.toList.map a:=by grind[Xg,Op.operands,Call.operands]
  grind[hf,Op.operands,Call.operands,aop,invoke,builtin]
 all_goals first
  |(simp only [aop];done)
  |(simp only [aop,d];done)
  |(unfold Op.operands at e;simp at e;simp only [aop,e];done)
theorem touch_ext{a:Operand->Value}(e: ∀x∈op.operands.toList,ρ x=a x):touch ρ op=touch a op:=by
 cases op
 case call c=>grind[touch,Op.operands,Call.operands]
 all_goals first
  |rfl
  |(unfold Op.operands at e;simp at e;simp only [touch,e];done)
  |(simp only [touch];done)
theorem we(l:Loc)(op:Op): ∀x∈op.operands.toList,l.evD (tmpsOf op.operands.toList) x=l.ev x:=by
 intro x a;cases x with
 | tmp t=>grind[Loc.evD,px,s7]|_=>rfl
def me(E:Env)(K:Value->Hp->Prop):Option (dT×Hp)->Prop
 |some (.val v,c)=>K v c|some (.skip,c)=>K (.tuple #[]) c| some (.call f a,c)=>eJ E f a none c fun x _ d=>match x with
   | .ret v=>K v d| .pan _=>False
 | some (.yield b a,c)=>nu E b a c fun x d=>match x with
   | .ret v=>K v d| .pan _=>False
 |_=>False
theorem opVal_n{x:Option (dT×Hp)}{K:Value->Hp->Prop}:(∃v h',dD E (lim E) x=some (.ret v,h')/\K v h')↔me E K x:=by
 cases x with
 |none=>exact⟨fun⟨_,_,a,_⟩=>(by cases a),fun h=>h.elim⟩
 | some q=>
   obtain⟨e,g⟩:=q;cases e with
   |val v=>exact⟨fun⟨_,_,a,b⟩=>(by cases a;exact b),fun h=>⟨_,_,rfl,h⟩⟩
   |skip=>exact⟨fun⟨_,_,a,b⟩=>(by cases a;exact b),fun h=>⟨_,_,rfl,h⟩⟩
   |panic v=>exact⟨fun⟨_,_,a,_⟩=>(by cases a),fun h=>h.elim⟩
   |recov=>exact⟨fun⟨_,_,a,_⟩=>(by cases a),fun h=>h.elim⟩
   |defer d=>exact⟨fun⟨_,_,a,_⟩=>(by cases a),fun h=>h.elim⟩
   | call f c=>simp only [me,dD,eJ];grind| yield b c=>grind[me,dD,nu]
theorem stepD_iff{l:Loc}{a:Bool}{K:Value->Hp->Prop}:(∃v h',dk E (lim E) (l.evD (tmpsOf o.op.operands.toList)) a o h=some (v,h')/\K v h')↔
 (if a=true then me E (fun v h'=>Xb h.n h'.lo=true/\K v {h' with lo:=h.lo}) (aop E l.ev {h with lo:=h.n} o.op)else me E K (aop E l.ev h o.op)):=by
 have e:=we l o.op;unfold dk;cases a with
 | false=>rw [if_neg (by simp)];simp only [cond_false];rw [wg e,<-opVal_n];grind| true=>rw [if_pos rfl];simp only [cond_true];rw [wg e,<-opVal_n];grind
theorem Es{a:Operand->Value}{b:Bool}(e: ∀x∈op.operands.toList,ρ x=a x):cV ρ b op h h'=cV a b op h h':=by unfold cV j7;rw [touch_ext e]
theorem run_opsD{Q:gL}{k:List Fr}{l:Loc}{c:List (Nat×Tch)}:Run E (lim E) cx Q (.opsD a q ps (o::os) i c::k) .normal l h↔ ∃b,cQ a l.regs o=some b/\
 (if b =true then(if fS E q i o.op=true then
       me E (fun v h'=>Xb h.n h'.lo=true/\Run E (lim E) cx Q (.opsD a q ps os (i+1) (iS i c (cV l.ev true o.op h h))::k) .normal (l.put o.dst v) {h' with lo:=h.lo}) (aop E l.ev {h with lo:=h.n} o.op)
     else me E (fun v h'=>Run E (lim E) cx Q (.opsD a q ps os (i+1) (iS i c (cV l.ev false o.op h h'))::k) .normal (l.put o.dst v) h') (aop E l.ev h o.op))
   else Run E (lim E) cx Q (.opsD a q ps os (i+1) c::k) .normal (l.put o.dst (.tuple #[])) h):=by
 rw [AW];simp only [Es (we l o.op),stepD_iff];cases fS E q i o.op with
 | true=>rfl|false=>exact zM
theorem uT{K:Value->Hp->Prop}{Q:Value->Hp->Prop}(c:Ret E f args h Q)(d: ∀v h',Q v h'->K v h'):me E K (some (.call f args,h)):=by obtain⟨v,h',a,b⟩:=c;exact⟨.ret v,none,h',a,d v h' b⟩
noncomputable section
abbrev Opt:=Option (Ex×Loc×Hp)
def getK{a:Type}(t:Tr a):Nat->Option a:=Tr.rec (motive:=fun _=>Nat->Option a) (fun _=>none)
 (fun x _ _ b c i=>Nat.rec (some x) (fun n _=>Bool.rec (c (n/2)) (b (n/2)) (Xd (n%2) 0)) i) t
def setK{a:Type}(t:Tr a):Nat->a->Tr a:=Tr.rec (motive:=fun _=>Nat->a->Tr a) (fun _ _=>.nil)
 (fun y l r b c i x=>Nat.rec (.node x l r) (fun n _=>Bool.rec (.node y l (c (n/2) x)) (.node y (b (n/2) x) r) (Xd (n%2) 0)) i) t
def iG(l:Loc)(d:Option Tmp)(v:Value):Loc:=Option.rec l (fun t=>Loc.mk (setK l.regs t v) l.dfs l.rc) d
def evK(l:Loc)(x:Operand):Value:=Operand.rec (motive:=fun _=>Loc->Value) (fun t l=>Option.rec (.tuple #[]) (fun v=>v) (getK l.regs t)) (fun v _=>Bool.rec poison v (dA v))
 (fun g _=>Bool.rec poison (.pointer (some ⟨g,0,none⟩)) (Xt g 16)) (fun f _=>.func (.func f) #[] #[]) x l
def exK(e:Ex):(Loc->Hp->Opt)->(Ex->Loc->Hp->Opt)->Loc->Hp->Opt:=Ex.rec (motive:=fun _=>(Loc->Hp->Opt)->(Ex->Loc->Hp->Opt)->Loc->Hp->Opt)
 (fun b _ l h=>b l h) (fun id _ a l h=>a (.exit id) l h) (fun _ a l h=>a .ret l h) (fun v _ a l h=>a (.pan v) l h) e
def ez(x:Opt)(a:Loc->Hp->Opt)(b:Ex->Loc->Hp->Opt):Opt:=Option.rec none (fun q=>Prod.rec (fun e c=>Prod.rec (fun l h=>exK e a b l h) c) q) x
def asInt:Value->Option (IntKind×Int)
 | .int k n=>some (k,n)|_=>none
abbrev BM:=IntKind->Int->IntKind->Int->Option Value->Option Value
def arK(f:IntKind->Int->Int->Option Value):BM:=fun k m a n _=>Bool.rec none (f k m n) (jF k a)
def binI(op:BinOp):BM:=BinOp.rec (motive:=fun _=>BM)
 (add:=arK fun k x y=>some (.int k (au k (x+y)))) (sub:=arK fun k x y=>some (.int k (au k (x-y)))) (mul:=arK fun k x y=>some (.int k (au k (x*y))))
 (quo:=fun _ _ _ _ s=>s) (rem:=fun _ _ _ _ s=>s) (and:=fun _ _ _ _ s=>s) (or:=fun _ _ _ _ s=>s) (xor:=fun _ _ _ _ s=>s) (andNot:=fun _ _ _ _ s=>s) (shl:=fun _ _ _ _ s=>s) (shr:=fun _ _ _ _ s=>s)
 (eql:=arK fun _ x y=>some (.bool (jh x y))) (neq:=arK fun _ x y=>some (.bool (!jh x y))) (lss:=arK fun _ x y=>some (.bool (oR x y))) (leq:=arK fun _ x y=>some (.bool (!oR y x)))
 (gtr:=arK fun _ x y=>some (.bool (oR y x))) (geq:=arK fun _ x y=>some (.bool (!oR x y))) op
def binK(E:Env)(op:BinOp)(t:TypeId)(x y:Operand)(a b:Value):Option Value:=
 Option.rec (bZ E op t x y a b) (fun p=>Option.rec (bZ E op t x y a b) (fun q=>binI op p.1 p.2 q.1 q.2 (bZ E op t x y a b)) (asInt b)) (asInt a)
abbrev OpM:=Env->Rec->Cx->Option Tmp->Loc->Hp->(Loc->Hp->Opt)->(Ex->Loc->Hp->Opt)->Opt
def lU(r:Option Value)(d:Option Tmp)(l:Loc)(h:Hp)(a:Loc->Hp->Opt):Opt:=Option.rec none (fun v=>a (iG l d v) h) r
def retHK(r:Option (Hp×Value))(d:Option Tmp)(l:Loc)(a:Loc->Hp->Opt):Opt:=Option.rec none (fun p=>Prod.rec (fun h v=>a (iG l d v) h) p) r
def vr(r:Option Hp)(d:Option Tmp)(l:Loc)(a:Loc->Hp->Opt):Opt:=Option.rec none (fun h=>a (iG l d (.tuple #[])) h) r
def dL(op:Op):OpM:=fun E R a d l h b c=>ez (eZ E R a ⟨d,op,0,"",#[],none⟩ l h) b c
def outK(o:Out):Option Tmp->Loc->Hp->(Loc->Hp->Opt)->(Ex->Loc->Hp->Opt)->Opt:=Out.rec (motive:=fun _=>Option Tmp->Loc->Hp->(Loc->Hp->Opt)->(Ex->Loc->Hp->Opt)->Opt)
 (fun v d l h a _=>a (iG l d v) h) (fun v _ l h _ b=>b (.pan v) l h) o
def resK(r:Option (Out×Option (Value×Bool)×Hp))(d:Option Tmp)(l:Loc)(a:Loc->Hp->Opt)(b:Ex->Loc->Hp->Opt):Opt:=Option.rec none (fun q=>Prod.rec (fun o c=>Prod.rec (fun _ h=>outK o d l h a b) c) q) r
def asFn:Value->Option (FuncId×Array Value×Array Value)
 | .func (.func g) a b=>some (g,a,b)|_=>none
def callK(c:Call):OpM:=fun E R e d l h a b=>Callee.rec (motive:=fun _=>Opt)
 (fun f=>Option.rec (dL (.call c) E R e d l h a b) (fun p=>resK (R.call p.1 (p.2.1.toList++c.args.toList.map (evK l)++p.2.2.toList) none h) d l a b) (asFn (evK l f)))
 (fun _ _=>dL (.call c) E R e d l h a b) (fun _=>dL (.call c) E R e d l h a b) c.callee
def opK(op:Op):OpM:=Op.rec (motive:=fun _=>OpM)
 (move:=fun x _ _ _ d l h j _=>j (iG l d (evK l x)) h)
 (assign:=fun x _ _ _ d l h j _=>j (iG l d (evK l x)) h)
 (pick:=fun c a b=>dL (.pick c a b))
 (alloc:=fun e=>dL (.alloc e))
 (box:=fun e v=>dL (.box e v))
 (build:=fun t p=>dL (.build t p))
 (buildSlice:=fun t n p=>dL (.buildSlice t n p))
 (insert:=fun t m k v=>dL (.insert t m k v))
 (load:=fun t a E _ _ d l h j _=>lU (gm E h t (evK l a)) d l h j)
 (store:=fun t a v E _ _ d l h j _=>vr (jX E h t (evK l a) (evK l v)) d l j)
 (ready:=fun g=>dL (.ready g))
 (waits:=fun g=>dL (.waits g))
 (nilCheck:=fun x=>dL (.nilCheck x))
 (binOp:=fun op t x y u E _ _ d l h j _=>lU (binK E op t x y (evK l x) (evK l y)) d l h j)
 (unOp:=fun op t x E _ _ d l h j _=>lU (unP op (evK l x)) d l h j)
 (convert:=fun s t x=>dL (.convert s t x))
 (sliceToArrayPointer:=fun t x=>dL (.sliceToArrayPointer t x))
 (makeInterface:=fun t x=>dL (.makeInterface t x))
 (makeFunc:=fun f a b=>dL (.makeFunc f a b))
 (makeMap:=fun t r=>dL (.makeMap t r))
 (makeChan:=fun t s=>dL (.makeChan t s))
 (makeSlice:=fun t a c=>dL (.makeSlice t a c))
 (slice:=fun t x a b c=>dL (.slice t x a b c))
 (fieldAddr:=fun s x i E _ _ d l h j _=>lU (aI E s (evK l x) i) d l h j)
 (field:=fun t x i E _ _ d l h j _=>lU (bI E t (evK l x) i) d l h j)
 (indexAddr:=fun t x i E _ _ d l h j _=>lU (gw E t (evK l x) (evK l i)) d l h j)
 (index:=fun t x i E _ _ d l h j _=>lU (jC E t (evK l x) (evK l i)) d l h j)
 (lookup:=fun t m k o E _ _ d l h j _=>lU (dC E h t (evK l m) (evK l k) o) d l h j)
 (mapUpdate:=fun t m k v E _ _ d l h j _=>vr (ey E h t (evK l m) (evK l k) (evK l v)) d l j)
 (mapEntry:=fun t m k E _ _ d l h j _=>retHK (lh E h t (evK l m) (evK l k)) d l j)
 (entryStore:=fun t m s v=>dL (.entryStore t m s v))
 (range:=fun t x=>dL (.range t x))
 (next:=fun i s=>dL (.next i s))
 (entry:=fun i=>dL (.entry i))
 (typeAssert:=fun x s t o=>dL (.typeAssert x s t o))
 (extract:=fun t i=>dL (.extract t i))
 (call:=fun c=>callK c)
 (go:=fun c=>dL (.go c))
 (defer:=fun c=>dL (.defer c))
 (panic:=fun x=>dL (.panic x))
 (send:=fun c x=>dL (.send c x))
 (recv:=fun t c o=>dL (.recv t c o))
 (select:=fun q b=>dL (.select q b)) op
def sV(ops:List Oper)(l:Loc)(o:Oper):Option Bool:=Option.rec (some true) (fun _=>cQ ops l.regs o) o.guard
def opsK(E:Env)(R:Rec)(cx:Cx)(ops:List Oper)(c:Loc->Hp->Opt)(d:Ex->Loc->Hp->Opt)(os:List Oper):Loc->Hp->Opt:=List.rec (motive:=fun _=>Loc->Hp->Opt) c
 (fun o _ a l h=>Option.rec none (fun b=>Bool.rec (a (iG l o.dst (.tuple #[])) h) (opK o.op E R cx o.dst l h a d) b) (sV ops l o)) os
def sT(op:Op):Bool:=Op.rec (motive:=fun _=>Bool)
 (move:=fun _=>true) (assign:=fun _=>true) (pick:=fun _ _ _=>false) (alloc:=fun _=>false) (box:=fun _ _=>false) (build:=fun _ _=>false) (buildSlice:=fun _ _ _=>false)
 (insert:=fun _ _ _ _=>false) (load:=fun _ _=>true) (store:=fun _ _ _=>true) (ready:=fun _=>false) (waits:=fun _=>false) (nilCheck:=fun _=>false) (binOp:=fun _ _ _ _ _=>true)
 (unOp:=fun _ _ _=>true) (convert:=fun _ _ _=>false) (sliceToArrayPointer:=fun _ _=>false) (makeInterface:=fun _ _=>false) (makeFunc:=fun _ _ _=>false) (makeMap:=fun _ _=>false)
 (makeChan:=fun _ _=>false) (makeSlice:=fun _ _ _=>false) (slice:=fun _ _ _ _ _=>false) (fieldAddr:=fun _ _ _=>true) (field:=fun _ _ _=>true) (indexAddr:=fun _ _ _=>true) (index:=fun _ _ _=>true)
 (lookup:=fun _ _ _ _=>true) (mapUpdate:=fun _ _ _ _=>true) (mapEntry:=fun _ _ _=>true) (entryStore:=fun _ _ _ _=>false) (range:=fun _ _=>false) (next:=fun _ _=>false) (entry:=fun _=>false)
 (typeAssert:=fun _ _ _ _=>false) (extract:=fun _ _=>false) (call:=fun _=>false) (go:=fun _=>false) (defer:=fun _=>false) (panic:=fun _=>false) (send:=fun _ _=>false) (recv:=fun _ _ _=>false)
 (select:=fun _ _=>false) op
def ua(E:Env)(q i:Nat)(op:Op):Bool:=Bool.rec (Bool.rec false (Xb 3 (cls E op)) (Nat.testBit q i)) false (Xd q 0)
def outDK(o:Out):(Value->Hp->Opt)->Hp->Opt:=Out.rec (motive:=fun _=>(Value->Hp->Opt)->Hp->Opt) (fun v k h=>k v h) (fun _ _ _=>none) o
def resDK(r:Option (Out×Option (Value×Bool)×Hp))(k:Value->Hp->Opt):Opt:=Option.rec none (fun q=>Prod.rec (fun o a=>Prod.rec (fun _ h=>outDK o k h) a) q) r
def nj(E:Env)(R:Rec)(a:Bool)(o:Oper)(l:Loc)(h:Hp)(k:Value->Hp->Opt):Opt:=Option.rec none (fun p=>k p.1 p.2) (dk E R l.ev a o h)
def yU(h:Hp)(k:Value->Hp->Opt)(v:Value)(h':Hp):Opt:=Bool.rec none (k v {h' with lo:=h.lo}) (Xb h.n h'.lo)
def callDK(E:Env)(R:Rec)(a:Bool)(o:Oper)(c:Call)(l:Loc)(h:Hp)(k:Value->Hp->Opt):Opt:=Callee.rec (motive:=fun _=>Opt)
 (fun f=>Option.rec (nj E R a o l h k) (fun p=>Bool.rec (resDK (R.call p.1 (p.2.1.toList++c.args.toList.map (evK l)++p.2.2.toList) none h) k)
   (resDK (R.call p.1 (p.2.1.toList++c.args.toList.map (evK l)++p.2.2.toList) none {h with lo:=h.n}) (yU h k)) a) (asFn (evK l f)))
 (fun _ _=>nj E R a o l h k) (fun _=>nj E R a o l h k) c.callee
def asCall(op:Op):Option Call:=match op with
 | .call c=>some c|_=>none
def yJ(E:Env)(R:Rec)(a:Bool)(o:Oper)(l:Loc)(h:Hp)(k:Value->Hp->Opt):Opt:=Option.rec (nj E R a o l h k) (fun c=>callDK E R a o c l h k) (asCall o.op)
def za(l:Loc)(op:Op):Option Tch:=match touch (l.evD (tmpsOf op.operands.toList)) op with
 |none=>none|some b=>some (.blk b)
abbrev DM:=Nat->Loc->Hp->List (Nat×Tch)->Opt
def yE (E:Env) (R:Rec) (cx:Cx) (q:Nat) (o:Oper) (b:DM) (i:Nat) (l:Loc) (h:Hp) (c:List (Nat×Tch)):Opt:=
 Bool.rec (yJ E R (ua E q i o.op) o l h fun v a=>b (i+1) (iG l o.dst v) a (iS i c (cV (l.evD (tmpsOf o.op.operands.toList)) (ua E q i o.op) o.op h a)))
  (Bool.rec (opK o.op E R cx o.dst l h (fun d a=>b (i+1) d a (iS i c (za l o.op))) (fun _ _ _=>none))
    (nj E R true o l h fun v a=>b (i+1) (iG l o.dst v) a (iS i c (za l o.op))) (ua E q i o.op)) (sT o.op)
def qG(E:Env)(R:Rec)(cx:Cx)(ops:List Oper)(q:Nat)(a:DM)(os:List Oper):DM:=List.rec (motive:=fun _=>DM) a
 (fun o _ c i l h d=>Option.rec none (fun b=>Bool.rec (c (i+1) (iG l o.dst (.tuple #[])) h d) (yE E R cx q o c i l h d) b) (sV ops l o)) os
def drawKo(E:Env)(R:Rec)(cx:Cx)(ops:List Oper)(l:Loc)(h:Hp)(a:Loc->Hp->Opt):Opt:=
 Option.rec none (fun p=>qG E R cx ops p.1 (fun _ l h b=>Bool.rec none (a l h) (c7 b p.2)) ops 0 l h []) (j8 E ops)
def drawK(E:Env)(R:Rec)(cx:Cx)(ops:List Oper)(l:Loc)(h:Hp)(a:Loc->Hp->Opt):Opt:=drawKo E R cx (cB ops) l h a
abbrev CodeM:=Cx->Code->Loc->Hp->(Loc->Hp->Opt)->(Ex->Loc->Hp->Opt)->Opt
def asBool:Value->Option Bool
 | .bool b=>some b|_=>none
def blkK(e:Ex):Nat->(Loc->Hp->Opt)->(Ex->Loc->Hp->Opt)->Loc->Hp->Opt:=Ex.rec (motive:=fun _=>Nat->(Loc->Hp->Opt)->(Ex->Loc->Hp->Opt)->Loc->Hp->Opt)
 (fun _ b _ l h=>b l h) (fun i id b a l h=>Bool.rec (a (.exit i) l h) (b l h) (Xd i id)) (fun _ _ a l h=>a .ret l h) (fun v _ _ a l h=>a (.pan v) l h) e
def pY(E:Env)(R:Rec)(M:CodeM)(cx:Cx)(c:Code):Loc->Hp->(Loc->Hp->Opt)->(Ex->Loc->Hp->Opt)->Opt:=Code.rec (motive:=fun _=>Loc->Hp->(Loc->Hp->Opt)->(Ex->Loc->Hp->Opt)->Opt)
 (skip:=fun l h a _=>a l h)
 (region:=fun _ g k l h a d=>Bool.rec (opsK E R cx g.toList a d g.toList l h) (Bool.rec (drawK E R cx g.toList l h a) (ez (cutD E R cx g.toList l h) a d) (E.cut cx.fn)) k)
 (seq:=fun _ _ i j l h a d=>i l h (fun l h=>j l h a d) d)
 (cond:=fun c _ _ i j l h a d=>Option.rec none (fun t=>Bool.rec (j l h a d) (i l h a d) t) (asBool (evK l c)))
 (block:=fun id _ m l h a d=>m l h a (fun e l h=>blkK e id a d l h))
 (loop:=fun b m l h a d=>m l h (fun l h=>M cx (.loop b) l h a d) d)
 (rangeFunc:=fun f p o n _ _ l h a d=>ez (jr R cx (evK l f) p o n l h) a d)
 (exit:=fun id l h _ d=>d (.exit id) l h)
 (scope:=fun _ m l h a d=>m l h a d)
 (label:=fun _ l h a _=>a l h)
 (goto:=fun _ _ _ _ _=>none)
 (ret:=fun l h _ d=>d .ret l h)
 (refuse:=fun _ _ _ _ _=>none) c
abbrev qt:=Option (Out×Option (Value×Bool)×Hp)
def xk(E:Env)(R:Rec)(b:Func)(l:Loc)(h':Hp):qt:=match cP R l.dfs none h' with
 | some (none,a)=>match bW E l.regs a b.results.toList with
   |none=>none|some c=>some (.ret (ab c),l.rc,a)
 |_=>none
def doneK(E:Env)(R:Rec)(a:Func)(l:Loc)(h:Hp):qt:=List.rec (motive:=fun _=>qt)
 (Option.rec none (fun b=>some (.ret (ab b),l.rc,h)) (bW E l.regs h a.results.toList)) (fun _ _ _=>xk E R a l h) l.dfs
def slowPan(E:Env)(R:Rec)(b:Func)(v:Value)(l:Loc)(h':Hp):qt:=match cP R l.dfs (some v) h' with
 |none=>none|some (some v,a)=>some (.pan v,l.rc,a)| some (none,a)=>match bW E l.regs a b.results.toList with
   |none=>none|some c=>some (.ret (ab c),l.rc,a)
def exLeave(e:Ex):Env->Rec->Func->Loc->Hp->qt:=Ex.rec (motive:=fun _=>Env->Rec->Func->Loc->Hp->qt) doneK (fun _ _ _ _ _ _=>none) doneK (fun v E R a l h=>slowPan E R a v l h) e
def leaveK(E:Env)(R:Rec)(a:Func)(r:Opt):qt:=Option.rec none (fun q=>Prod.rec (fun e b=>Prod.rec (fun l h=>exLeave e E R a l h) b) q) r
def yQ(E:Env)(R:Rec)(f:FuncId)(args:List Value)(b:Option (Value×Bool))(h:Hp)(a:Func)(body:Code):qt:=
 Bool.rec none (leaveK E R a (R.code ⟨f,a.ntmps,none⟩ body ⟨(Tr.blank (.tuple #[]) a.ntmps a.ntmps).setAll 0 args,[],b⟩ h)) (Xb args.length a.ntmps)
def callBK(E:Env)(R:Rec)(f:FuncId)(args:List Value)(c:Option (Value×Bool))(h:Hp):qt:=
 Option.rec none (fun b=>Option.rec none (fun a=>yQ E R f args c h b a) b.body) (E.fn f)
def yx(E:Env)(R:Rec)(f:FuncId)(args:List Value)(a:Option (Value×Bool))(h:Hp):qt:=
 Option.rec (callBK E R f args a h) (fun v=>Option.rec (some (.ret v,none,h)) (fun _=>none) a) (E.orc f args)
structure RK where
 call:FuncId->List Value->Option (Value×Bool)->Hp->qt
 code:CodeM
def RK.rec'(K:RK):Rec:=⟨K.call,fun a c l h=>K.code a c l h (fun l h=>some (.normal,l,h)) (fun e l h=>some (e,l,h))⟩
def botK:RK:=⟨fun _ _ _ _=>none,fun _ _ _ _ _ _=>none⟩
def nextRK(E:Env)(K:RK):RK:=⟨fun f a b h=>yx E K.rec' f a b h,fun d c l h e g=>pY E K.rec' K.code d c l h e g⟩
def runK(E:Env)(n:Nat):RK:=Nat.rec botK (fun _ K=>nextRK E K) n
def envK(a:Tr Func)(b:Tr TypeInfo)(c:List Nat):Env:={fn:=fun f=>getK a f,ty:=fun t=>getK b t,eqok:=fun t=>pg t c}
end
noncomputable section
theorem getK_eq{a:Type}(t:Tr a)(i:Nat):getK t i=t.get i:=rfl
theorem setK_eq{a:Type}(t:Tr a)(i:Nat)(x:a):setK t i x=t.set i x:=rfl
theorem pk(l:Loc)(d:Option Tmp)(v:Value):iG l d v=l.put d v:=by
 cases d with
 |none=>rfl|some t=>show Loc.mk (setK l.regs t v) l.dfs l.rc=_;rw [setK_eq];rfl
theorem iA(l:Loc):evK l=l.ev:=by
 funext x;cases x with
 | tmp t=>
   show Option.rec (motive:=fun _=>Value) _ _ (getK l.regs t)=_;rw [getK_eq];simp only [Loc.ev];cases l.regs.get t<;>rfl
 |const v=>simp only [Loc.ev];show Bool.rec (motive:=fun _=>Value) poison v (dA v)=_;cases dA v<;>rfl
 |global g=>simp only [Loc.ev];show Bool.rec (motive:=fun _=>Value) poison _ (Xt g 16)=_;cases Xt g 16<;>rfl
 |func f=>rfl
theorem bind2_id(x:Opt):ez x (fun l h=>some (.normal,l,h)) (fun e l h=>some (e,l,h))=x:=by
 cases x with
 |none=>rfl|some q=>obtain⟨e,l,h⟩:=q;cases e<;>rfl
theorem uc(x:Opt)(c:Loc->Hp->Opt)(d:Ex->Loc->Hp->Opt)(f:Loc->Hp->Opt)(a:Ex->Loc->Hp->Opt)(b: ∀e l h,e≠ .normal->d e l h=a e l h):
 ez x (fun l h=>ez (c l h) f a) d=ez (match x with
  |some (.normal,l,h)=>c l h|r=>r) f a:=by
 cases x with
 |none=>rfl| some q=>
   obtain⟨e,l,h⟩:=q;cases e with
   |normal=>rfl|exit i=>exact b _ _ _ (by simp)|ret=>exact b _ _ _ (by simp)|pan v=>exact b _ _ _ (by simp)
theorem binK_eq(E:Env)(op:BinOp)(t:TypeId)(x y:Operand)(a b:Value):binK E op t x y a b=bZ E op t x y a b:=by
 cases a<;>(try rfl);cases b<;>(try rfl);rename_i k m c n;cases op<;>(try rfl)
 all_goals (show Bool.rec (motive:=fun _=>Option Value) none _ (jF k c)=(bif jF k c then _ else none);cases jF k c<;>rfl)
theorem retK_eq(r:Option Value)(o:Oper)(l:Loc)(h:Hp)(E:Env)(R:Rec)(a:Loc->Hp->Opt)(b:Ex->Loc->Hp->Opt):lU r o.dst l h a=ez (pO o l (dD E R (df h r))) a b:=by
 cases r with
 |none=>rfl|some v=>show a (iG l o.dst v) h=a (l.put o.dst v) h;rw [pk]
theorem retHK_eq(r:Option (Hp×Value))(o:Oper)(l:Loc)(E:Env)(R:Rec)(a:Loc->Hp->Opt)(b:Ex->Loc->Hp->Opt):retHK r o.dst l a=ez (pO o l (dD E R (dI r))) a b:=by
 cases r with
 |none=>rfl|some p=>obtain⟨h,v⟩:=p;show a (iG l o.dst v) h=a (l.put o.dst v) h;rw [pk]
theorem retUK_eq(r:Option Hp)(o:Oper)(l:Loc)(E:Env)(R:Rec)(a:Loc->Hp->Opt)(b:Ex->Loc->Hp->Opt):vr r o.dst l a=ez (pO o l (dD E R (gp r))) a b:=by
 cases r with
 |none=>rfl|some h=>show a (iG l o.dst (.tuple #[])) h=a (l.put o.dst (.tuple #[])) h;rw [pk]
theorem resK_eq(R:Rec)(g:FuncId)(args:List Value)(o:Oper)(l:Loc)(h:Hp)(E:Env)(a:Loc->Hp->Opt)(b:Ex->Loc->Hp->Opt):
 resK (R.call g args none h) o.dst l a b=ez (pO o l (dD E R (some (.call g args,h)))) a b:=by
 simp only [dD];cases R.call g args none h with
 |none=>rfl| some q=>
   obtain⟨x,d,c⟩:=q;cases x with
   |ret v=>show a (iG l o.dst v) c=a (l.put o.dst v) c;rw [pk]|pan v=>rfl
theorem oP{R:Rec}{l:Loc}{x:Option (dT×Hp)}(a:aop E l.ev h o.op=x)(b: ∀h',x≠some (.recov,h'))(c: ∀d h',x≠some (.defer d,h')):eZ E R cx o l h=pO o l (dD E R x):=by
 unfold eZ;rw [a]
 split
 . exact absurd rfl (b _)
 . exact absurd rfl (c _ _)
 . rfl
theorem xj{r:Option Value}:(∀h',df h r≠some (.recov,h'))/\ ∀d h',df h r≠some (.defer d,h'):=by cases r<;>exact⟨by intros;simp [df],by intros;simp [df]⟩
theorem xC{r:Option (Hp×Value)}:(∀h',dI r≠some (.recov,h'))/\ ∀d h',dI r≠some (.defer d,h'):=by cases r<;>exact⟨by intros;simp [dI],by intros;simp [dI]⟩
theorem xJ{r:Option Hp}:(∀h',gp r≠some (.recov,h'))/\ ∀d h',gp r≠some (.defer d,h'):=by cases r<;>exact⟨by intros;simp [gp],by intros;simp [gp]⟩
theorem opK_eq(E:Env)(R:Rec)(cx:Cx)(o:Oper)(l:Loc)(h:Hp)(q:Loc->Hp->Opt)(s:Ex->Loc->Hp->Opt):opK o.op E R cx o.dst l h q s=ez (eZ E R cx o l h) q s:=by
 have w: ∀r,aop E l.ev h o.op=df h r->lU r o.dst l h q=ez (eZ E R cx o l h) q s:=fun r A=>by rw [oP A xj.1 xj.2];exact retK_eq r o l h E R q s
 have B: ∀r,aop E l.ev h o.op=dI r->retHK r o.dst l q=ez (eZ E R cx o l h) q s:=fun r A=>by rw [oP A xC.1 xC.2];exact retHK_eq r o l E R q s
 have C: ∀r,aop E l.ev h o.op=gp r->vr r o.dst l q=ez (eZ E R cx o l h) q s:=fun r A=>by rw [oP A xJ.1 xJ.2];exact retUK_eq r o l E R q s
 obtain⟨j,op,D,pos,z,guard⟩:=o;simp only []at w B C⊢;cases op
 case move x=>have:=w (some (l.ev x)) rfl;rw [<-this];show q (iG l j (evK l x)) h=q (iG l j (l.ev x)) h;rw [iA]
 case assign x=>have:=w (some (l.ev x)) rfl;rw [<-this];show q (iG l j (evK l x)) h=q (iG l j (l.ev x)) h;rw [iA]
 case load t a=>rw [<-w _ rfl];show lU (gm E h t (evK l a)) j l h q=_;rw [iA]
 case store t a v=>rw [<-C _ rfl];show vr (jX E h t (evK l a) (evK l v)) j l q=_;rw [iA]
 case binOp b t x y u=>rw [<-w (bZ E b t x y (l.ev x) (l.ev y)) rfl];show lU (binK E b t x y (evK l x) (evK l y)) j l h q=_;rw [iA,binK_eq]
 case unOp b t x=>rw [<-w (unP b (l.ev x)) rfl];show lU (unP b (evK l x)) j l h q=_;rw [iA]
 case fieldAddr t x i=>rw [<-w (aI E t (l.ev x) i) rfl];show lU (aI E t (evK l x) i) j l h q=_;rw [iA]
 case field t x i=>rw [<-w (bI E t (l.ev x) i) rfl];show lU (bI E t (evK l x) i) j l h q=_;rw [iA]
 case indexAddr t x i=>rw [<-w (gw E t (l.ev x) (l.ev i)) rfl];show lU (gw E t (evK l x) (evK l i)) j l h q=_;rw [iA]
 case index t x i=>rw [<-w (jC E t (l.ev x) (l.ev i)) rfl];show lU (jC E t (evK l x) (evK l i)) j l h q=_;rw [iA]
 case lookup t m k b=>rw [<-w _ rfl];show lU (dC E h t (evK l m) (evK l k) b) j l h q=_;rw [iA]
 case mapUpdate t m k v=>rw [<-C _ rfl];show vr (ey E h t (evK l m) (evK l k) (evK l v)) j l q=_;rw [iA]
 case mapEntry t m k=>rw [<-B _ rfl];show retHK (lh E h t (evK l m) (evK l k)) j l q=_;rw [iA]
 case call c=>
  show callK c E R cx j l h q s=_;unfold callK;cases F:c.callee with
  |invoke r n=>rfl|builtin b=>rfl| value f=>
    show Option.rec (motive:=fun _=>Opt) (dL (.call c) E R cx j l h q s) _ (asFn (evK l f))=_;rw [iA];cases hf:asFn (l.ev f)with
    |none=>rfl| some p=>
      obtain⟨g,a,b⟩:=p;have B:l.ev f=.func (.func g) a b:=by
       unfold asFn at hf
       split at hf
       . rename_i G;cases hf;exact G
       . cases hf
      have A:aop E l.ev h (.call c)=some (.call g (a.toList++c.args.toList.map l.ev++b.toList),h):=(by simp only [aop,F,B,target]);rw [oP (o:=⟨j,.call c,D,pos,z,guard⟩) A (by intro H e;cases e) (by intro d H e;cases e)];exact resK_eq R g _ ⟨j,.call c,D,pos,z,guard⟩ l h E q s
 all_goals rfl
theorem Ai(ops:List Oper)(l:Loc)(o:Oper):sV ops l o=cQ ops l.regs o:=by
 unfold sV;cases a:o.guard with
 |none=>unfold cQ;rw [a]|some q=>rfl
theorem opsK_eq(E:Env)(R:Rec)(cx:Cx)(ops:List Oper)(c:Loc->Hp->Opt)(a:Ex->Loc->Hp->Opt): ∀(os:List Oper) (l:Loc) (h:Hp),opsK E R cx ops c a os l h=ez (jg E R cx ops os l h) c a
 | [],l,h=>rfl| o ::os,l,h=>by
   have d:=opsK_eq E R cx ops c a os;show Option.rec (motive:=fun _=>Opt) none (fun b=>Bool.rec (opsK E R cx ops c a os (iG l o.dst (.tuple #[])) h) (opK o.op E R cx o.dst l h (opsK E R cx ops c a os) a) b) (sV ops l o)=_;rw [Ai];simp only [jg];cases cQ ops l.regs o with
   |none=>rfl| some b=>
     cases b with
     |false=>show opsK E R cx ops c a os (iG l o.dst (.tuple #[])) h=_;rw [d,pk]| true=>
       show opK o.op E R cx o.dst l h (opsK E R cx ops c a os) a=_;rw [opK_eq,show opsK E R cx ops c a os=fun l h=>ez (jg E R cx ops os l h) c a from funext fun l=>funext fun h=>d l h];rw [uc _ _ _ _ _ (fun _ _ _ _=>rfl)];simp only [];cases eZ E R cx o l h with
       |none=>rfl|some q=>obtain⟨e,f,g⟩:=q;cases e<;>rfl
end
noncomputable section
theorem Al(E:Env)(R:Rec)(l:Loc)(a:Bool)(o:Oper)(h:Hp):dk E R (l.evD (tmpsOf o.op.operands.toList)) a o h=dk E R l.ev a o h:=by unfold dk;rw [wg (we l o.op),wg (we l o.op)]
theorem fast_step{R:Rec}{l:Loc}(hf:sT o.op=true){K:Value->Hp->Opt}:
 ez (eZ E R cx o l h) (fun l' h'=>none) (fun _ _ _=>none)=none/\
 ∀ b:Loc->Hp->Opt,ez (eZ E R cx o l h) b (fun _ _ _=>none)=(match dk E R l.ev false o h with
   |none=>none|some (v,h')=>b (l.put o.dst v) h'):=by
 have c: ∀x,aop E l.ev h o.op=x->((∃e r,x=df e r)\/(∃r,x=dI r)\/ ∃r,x=gp r)-> ∀b:Loc->Hp->Opt,ez (eZ E R cx o l h) b (fun _ _ _=>none)=(match dk E R l.ev false o h with
  |none=>none|some (v,h')=>b (l.put o.dst v) h'):=by
  intro x g i b;have j:(∀h',x≠some (.recov,h'))/\ ∀d h',x≠some (.defer d,h'):=by
   rcases i with⟨e,r,rfl⟩|⟨r,rfl⟩|⟨r,rfl⟩
   . exact xj
   . exact xC
   . exact xJ
  rw [oP g j.1 j.2];simp only [dk,cond_false,g];rcases i with⟨e,r,rfl⟩|⟨r,rfl⟩|⟨r,rfl⟩<;>cases r<;>rfl
 have a:(∃e r,aop E l.ev h o.op=df e r)\/(∃r,aop E l.ev h o.op=dI r)\/ ∃r,aop E l.ev h o.op=gp r:=by
  obtain⟨k,op,m,pos,f,guard⟩:=o;simp only []at hf⊢;cases op<;>(try (cases hf;done))
  all_goals first
   |exact .inl ⟨h,some (l.ev _),rfl⟩
   |exact .inl ⟨h,_,rfl⟩
   |exact .inr (.inl ⟨_,rfl⟩)
   |exact .inr (.inr ⟨_,rfl⟩)
 refine⟨?_,c _ rfl a⟩;rw [c _ rfl a];cases dk E R l.ev false o h<;>rfl
theorem xR(E:Env)(q i:Nat)(op:Op):ua E q i op=fS E q i op:=by
 unfold ua fS;cases a:Xd q 0 with
 | true=>have:q=0:=Xe a;subst this;simp|false=>cases Nat.testBit q i<;>rfl
theorem elseDK_eq (E:Env) (R:Rec) (d:Bool) (o:Oper) (l:Loc) (h:Hp) (k:Value->Hp->Opt):yJ E R d o l h k=nj E R d o l h k:=by
 unfold yJ;cases e:asCall o.op with
 |none=>rfl| some c=>
   show callDK E R d o c l h k=_;have t:o.op=.call c:=by
    unfold asCall at e
    split at e
    . rename_i i;cases e;exact i
    . cases e
   unfold callDK;cases j:c.callee with
   |invoke r n=>rfl|builtin b=>rfl| value f =>
     show Option.rec (motive:=fun _=>Opt) (nj E R d o l h k) _ (asFn (evK l f))=_;rw [iA];cases hf:asFn (l.ev f)with
     |none=>rfl| some p=>
       obtain⟨g,a,b⟩:=p;have u:l.ev f=.func (.func g) a b:=by
        unfold asFn at hf
        split at hf
        . rename_i i;cases hf;exact i
        . cases hf
       have s: ∀h,aop E l.ev h o.op=some (.call g (a.toList++c.args.toList.map l.ev++b.toList),h):=(by intro h;rw [t];simp only [aop,j,u,target]);unfold nj dk;cases d with
       | false=>
         simp only [cond_false,s,dD];show resDK (R.call g (a.toList++c.args.toList.map l.ev++b.toList) none h) k=_;cases R.call g (a.toList++c.args.toList.map l.ev++b.toList) none h with
         |none=>rfl|some q=>obtain⟨x,w,m⟩:=q;cases x<;>rfl
       | true=>
         simp only [cond_true,s,dD];show resDK (R.call g (a.toList++c.args.toList.map l.ev++b.toList) none {h with lo:=h.n}) (yU h k)=_;cases R.call g (a.toList++c.args.toList.map l.ev++b.toList) none {h with lo:=h.n}with
         |none=>rfl| some q=>
           obtain⟨x,w,m⟩:=q;cases x with
           |pan v=>rfl| ret v=>
             show yU h k v m=_;simp only [yU];cases Xb h.n m.lo<;>rfl
theorem C7(h:sT op=true):dS op=false:=by cases op<;>first|rfl|exact absurd h (by simp [sT])
theorem CW (E:Env) (R:Rec) (cx:Cx) (ops:List Oper) (q:Nat) (K:Loc->Hp->List (Nat×Tch)->Opt): ∀(os:List Oper) (i:Nat) (l:Loc) (h:Hp) (a:List (Nat×Tch)),
 qG E R cx ops q (fun _ l h a=>K l h a) os i l h a=(match cd E R ops q os i l h a with
  |none=>none|some (l',h',d)=>K l' h' d)
 | [],i,l,h,a=>rfl| o :: os,i,l,h,a=>by
   have g:=CW E R cx ops q K os;show Option.rec (motive:=fun _=>Opt) none (fun b=>Bool.rec (qG E R cx ops q (fun _ l h a=>K l h a) os (i+1) (iG l o.dst (.tuple #[])) h a) (yE E R cx q o (qG E R cx ops q (fun _ l h a=>K l h a) os) i l h a) b) (sV ops l o)=_;rw [Ai];simp only [cd];cases cQ ops l.regs o with
   |none=>rfl| some b=>
     cases b with
     |false=>show qG E R cx ops q (fun _ l h a=>K l h a) os (i+1) (iG l o.dst (.tuple #[])) h a=_;rw [g,pk]
     | true=>
       show yE E R cx q o (qG E R cx ops q (fun _ l h a=>K l h a) os) i l h a=_;simp only [];have c: ∀f,fS E q i o.op=f->nj E R f o l h (fun v h'=>qG E R cx ops q (fun _ l h a=>K l h a) os (i+1) (iG l o.dst v) h' (iS i a (cV (l.evD (tmpsOf o.op.operands.toList)) f o.op h h')))=
        (match(match dk E R (l.evD (tmpsOf o.op.operands.toList)) (fS E q i o.op) o h with
          |none=>none|some (v,h')=>cd E R ops q os (i+1) (l.put o.dst v) h' (iS i a (cV (l.evD (tmpsOf o.op.operands.toList)) (fS E q i o.op) o.op h h')))with
          |none=>none|some (l',h',d)=>K l' h' d):=by
        intro f e;rw [e,Al];unfold nj;cases dk E R l.ev f o h with
        |none=>rfl|some p=>obtain⟨v,h'⟩:=p;show qG E R cx ops q _ os (i+1) (iG l o.dst v) h' _=_;rw [g,pk]
       unfold yE;cases hf:sT o.op with
       | false=>show yJ E R (ua E q i o.op) o l h _=_;rw [elseDK_eq,xR];exact c _ rfl| true=>
         have k: ∀b (h h':Hp),cV (l.evD (tmpsOf o.op.operands.toList)) b o.op h h'=za l o.op:=(by intro b h h';have j:fZ o.op=false:=(by cases m:o.op<;>first|rfl|(rw [m]at hf;simp [sT]at hf));unfold cV za j7;rw [C7 hf,j];rfl);simp only [k]at c⊢;cases e:ua E q i o.op with
         | true=>rw [xR]at e;exact c true e| false=>
           rw [xR]at e;show opK o.op E R cx o.dst l h _ _=_;rw [opK_eq,(fast_step (R:=R) hf (K:=fun _ _=>none)).2,Al,e];cases dk E R l.ev false o h with
           |none=>rfl|some p=>obtain⟨v,h'⟩:=p;simp only [];rw [g]
theorem codeK_eq(E:Env)(R:Rec)(M:CodeM)(D: ∀cx c l h d g,M cx c l h d g=ez (R.code cx c l h) d g)(cx:Cx): ∀(c:Code) (l:Loc) (h:Hp) (d:Loc->Hp->Opt) (g:Ex->Loc->Hp->Opt),
 pY E R M cx c l h d g=ez (aV E R cx c l h) d g:=by
 intro c
 induction c with
 |skip=>intro l h d g;rfl|label n=>intro l h d g;rfl| region id j s=>
   intro l h d g;cases s with
   |false=>exact opsK_eq E R cx j.toList d g j.toList l h| true=>
     show(Bool.rec (motive:=fun _=>Opt) (drawK E R cx j.toList l h d) (ez (cutD E R cx j.toList l h) d g) (E.cut cx.fn):Opt)=_;simp only [aV,cond_true];cases E.cut cx.fn with
     |true=>rfl|false=>
     show drawK E R cx j.toList l h d=_;simp only [cond_false];unfold drawK drawKo;generalize cB j.toList=r;cases j8 E r with
     |none=>rfl| some p=>
       obtain⟨q,u⟩:=p;show qG E R cx r q (fun _ l h B=>Bool.rec none (d l h) (c7 B u)) r 0 l h []=_;rw [CW E R cx r q (fun l h B=>Bool.rec none (d l h) (c7 B u))];simp only [];cases cd E R r q r 0 l h []with
       |none=>rfl| some x=>
         obtain⟨a,b,c⟩:=x;simp only [];cases c7 c u<;>rfl
 | seq a b k o=>
   intro l h d g;show pY E R M cx a l h (fun l h=>pY E R M cx b l h d g) g=_;rw [k,show(fun l h=>pY E R M cx b l h d g)=fun l h=>ez (aV E R cx b l h) d g from funext fun l=>funext fun h=>o l h d g];rw [uc _ _ _ _ _ (fun _ _ _ _=>rfl)];simp only [aV];cases aV E R cx a l h with
   |none=>rfl|some q=>obtain⟨e,z,A⟩:=q;cases e<;>rfl
 | cond c a b k o=>
   intro l h d g;show Option.rec (motive:=fun _=>Opt) none (fun t=>Bool.rec (pY E R M cx b l h d g) (pY E R M cx a l h d g) t) (asBool (evK l c))=_;rw [iA,k,o];simp only [aV];cases l.ev c<;>(try rfl);rename_i t;cases t<;>rfl
 | block id b w=>
   intro l h d g;show pY E R M cx b l h d (fun e l h=>blkK e id d g l h)=_;rw [w];simp only [aV];cases aV E R cx b l h with
   |none=>rfl| some q=>
     obtain⟨e,z,A⟩:=q;cases e with
     |normal=>rfl|ret=>rfl|pan v=>rfl| exit i=>
       show Bool.rec (motive:=fun _=>Opt) (g (.exit i) z A) (d z A) (Xd i id)=_;simp only [];cases Xd i id<;>rfl
 | loop b w=>
   intro l h d g;show pY E R M cx b l h (fun l h=>M cx (.loop b) l h d g) g=_;rw [w,show(fun l h=>M cx (.loop b) l h d g)=fun l h=>ez (R.code cx (.loop b) l h) d g from funext fun l=>funext fun h=>D cx (.loop b) l h d g];rw [uc _ _ _ _ _ (fun _ _ _ _=>rfl)];simp only [aV];cases aV E R cx b l h with
   |none=>rfl|some q=>obtain⟨e,z,A⟩:=q;cases e<;>rfl
 | rangeFunc f u C y _ _=>intro l h d g;show ez (jr R cx (evK l f) u C y l h) d g=_;rw [iA];rfl|exit id=>intro l h d g;rfl|scope b w=>intro l h d g;exact w l h d g|goto n=>intro l h d g;rfl|ret=>intro l h d g;rfl|refuse m=>intro l h d g;rfl
theorem CH(E:Env)(R:Rec)(a:Func)(l:Loc)(h:Hp):doneK E R a l h=xk E R a l h:=by
 unfold doneK xk;cases b:l.dfs with
 |cons d c=>rfl| nil=>
   simp only [cP];cases bW E l.regs h a.results.toList<;>rfl
theorem callBK_eq(E:Env)(R:Rec)(f:FuncId)(args:List Value)(c:Option (Value×Bool))(h:Hp):callBK E R f args c h=mi E R f args c h:=by
 unfold callBK mi;cases E.fn f with
 |none=>rfl| some b=>
   show Option.rec (motive:=fun _=>qt) none (fun a=>yQ E R f args c h b a) b.body=_;simp only [];cases b.body with
   |none=>rfl| some a=>
     show yQ E R f args c h b a=_;unfold yQ;simp only [];cases Xb args.length b.ntmps with
     |false=>rfl| true=>
       show leaveK E R b _=_;simp only [cond_true];cases R.code ⟨f,b.ntmps,none⟩ a ⟨(Tr.blank (.tuple #[]) b.ntmps b.ntmps).setAll 0 args,[],c⟩ h with
       |none=>rfl| some q=>
         obtain⟨e,l,d⟩:=q;cases e with
         |exit i=>rfl|pan v=>rfl|normal=>exact CH E R b l d|ret=>exact CH E R b l d
theorem callSK_eq(E:Env)(R:Rec)(f:FuncId)(args:List Value)(a:Option (Value×Bool))(h:Hp):yx E R f args a h=jE E R f args a h:=by
 unfold yx jE;cases E.orc f args with
 |none=>exact callBK_eq E R f args a h|some v=>cases a<;>rfl
theorem BR(E:Env): ∀n,(runK E n).rec'=run E n/\ ∀cx c l h b d,(runK E n).code cx c l h b d=ez ((run E n).code cx c l h) b d
 |0=>⟨rfl,fun _ _ _ _ _ _=>rfl⟩
 | n+1=>by
   obtain⟨i,k⟩:=BR E n;have j: ∀cx c l h b d,(runK E (n+1)).code cx c l h b d=ez ((run E (n+1)).code cx c l h) b d:=(by intro cx c l h b d;show pY E (runK E n).rec' (runK E n).code cx c l h b d=ez (aV E (run E n) cx c l h) b d;rw [i];exact codeK_eq E (run E n) (runK E n).code k cx c l h b d);refine⟨?_,j⟩;show Rec.mk (fun f a g h=>yx E (runK E n).rec' f a g h) (fun cx c l h=>(runK E (n+1)).code cx c l h (fun l h=>some (.normal,l,h)) (fun e l h=>some (e,l,h)))=next E (run E n)
   rw [i];unfold next
   congr 1
   . funext f a g h;exact callSK_eq E (run E n) f a g h
   . funext cx c l h;rw [j,bind2_id];rfl
theorem runK_call(E:Env)(n:Nat)(f:FuncId)(args:List Value)(a:Option (Value×Bool))(h:Hp):(runK E n).call f args a h=(run E n).call f args a h:=by rw [<-(BR E n).1];rfl
theorem envK_eq(a:Tr Func)(b:Tr TypeInfo)(c:List Nat):envK a b c=envOf a b c:=rfl
end
section
variable{E:Env}{ρ:Operand->Value}{h:Hp}
theorem o_move:aop E ρ h (.move x)=some (.val (ρ x),h):=rfl
theorem o_assign:aop E ρ h (.assign x)=some (.val (ρ x),h):=rfl
theorem o_load{a:Operand}:aop E ρ h (.load t a)=df h (gm E h t (ρ a)):=rfl
theorem o_store{a:Operand}:aop E ρ h (.store t a x)=gp (jX E h t (ρ a) (ρ x)):=rfl
theorem o_binOp{op:BinOp}{u:TypeId}:aop E ρ h (.binOp op t x y u)=df h (bZ E op t x y (ρ x) (ρ y)):=rfl
theorem o_unOp{op:UnOp}:aop E ρ h (.unOp op t x)=df h (unP op (ρ x)):=rfl
theorem El{a b:Array Operand}:aop E ρ h (.makeFunc (.func f) a b)=some (.val (.func (.func f) (a.map ρ) (b.map ρ)),h):=rfl
theorem o_slice{l u m:Option Operand}:aop E ρ h (.slice t x l u m)=df h (ik E t (ρ x) (l.map ρ) (u.map ρ) (m.map ρ)):=rfl
theorem C0:aop E ρ h (.fieldAddr s x i)=df h (aI E s (ρ x) i):=rfl
theorem o_field:aop E ρ h (.field s x i)=df h (bI E s (ρ x) i):=rfl
theorem Dv{i:Operand}:aop E ρ h (.indexAddr t x i)=df h (gw E t (ρ x) (ρ i)):=rfl
theorem o_index{i:Operand}:aop E ρ h (.index t x i)=df h (jC E t (ρ x) (ρ i)):=rfl
theorem o_build{ps:Array (Nat×Operand)}:aop E ρ h (.build t ps)=df h (lj E t (ps.toList.map fun p=>(p.1,ρ p.2))):=rfl
theorem Cn{ps:Array (Nat×Operand)}:aop E ρ h (.buildSlice t n ps)=dI (lN E h t n (ps.toList.map fun p=>(p.1,ρ p.2))):=rfl
theorem Db{l:Operand}:aop E ρ h (.makeSlice t l c)=dI (kM E h t (ρ l) (ρ c)):=rfl
theorem Bd{a:Bool}:aop E ρ h (.typeAssert x s t a)=df h (qP E (ρ x) t a):=rfl
theorem o_convert:aop E ρ h (.convert s t x)=dI (jy E h s t (ρ x)):=rfl
theorem o_lookup{m k:Operand}{a:Bool}:aop E ρ h (.lookup t m k a)=df h (dC E h t (ρ m) (ρ k) a):=rfl
theorem Di{m k v:Operand}:aop E ρ h (.mapUpdate t m k v)=gp (ey E h t (ρ m) (ρ k) (ρ v)):=rfl
theorem DH{m k:Operand}:aop E ρ h (.mapEntry t m k)=dI (lh E h t (ρ m) (ρ k)):=rfl
theorem CX{m s v:Operand}:aop E ρ h (.entryStore t m s v)=gp (n8 h (ρ m) (ρ s) (ρ v)):=rfl
theorem o_callv{f:Operand}{as:Array Operand}{ts:Array TypeId}:aop E ρ h (.call ⟨.value f,as,ts⟩)=match target (ρ f) (as.toList.map ρ)with|none=>none|some x=>some (x,h):=rfl
theorem o_max{ts:Array TypeId}:aop E ρ h (.call ⟨.builtin .max,#[x,y],ts⟩)=df h (iL true (ρ x) [ρ y]):=rfl
theorem o_min{ts:Array TypeId}:aop E ρ h (.call ⟨.builtin .min,#[x,y],ts⟩)=df h (iL false (ρ x) [ρ y]):=rfl
theorem o_append{s:Operand}{ts:Array TypeId}:aop E ρ h (.call ⟨.builtin .append,#[s,x],ts⟩)=dI (dM E h ts.toList (ρ s) (ρ x)):=rfl
theorem o_copy{s:Operand}{ts:Array TypeId}:aop E ρ h (.call ⟨.builtin .copy,#[s,x],ts⟩)=dI (copyV E h ts.toList (ρ s) (ρ x)):=rfl
end
theorem D0:df h (some v)=some (.val v,h):=rfl
theorem Eo:dI (some (h,v))=some (.val v,h):=rfl
theorem Eh:gp (some h)=some (.skip,h):=rfl
theorem gH(k:IntKind):jF k k=true:=by rw [iZ];simp
theorem b_add{n:Int}:bZ E .add t x y (.int k m) (.int k n)=some (.int k (au k (m+n))):=by simp [bZ,gH,jc]
theorem b_sub{n:Int}:bZ E .sub t x y (.int k m) (.int k n)=some (.int k (au k (m-n))):=by simp [bZ,gH,jc]
theorem b_mul{n:Int}:bZ E .mul t x y (.int k m) (.int k n)=some (.int k (au k (m*n))):=by simp [bZ,gH,jc]
theorem po(m n:Int):jh m n=decide (m=n):=by rw [iX];by_cases h:m=n<;>simp [h]
theorem b_eql{n:Int}:bZ E .eql t x y (.int k m) (.int k n)=some (.bool (decide (m=n))):=by simp [bZ,gH,jc,po]
theorem b_neq{n:Int}:bZ E .neq t x y (.int k m) (.int k n)=some (.bool (!decide (m=n))):=by simp [bZ,gH,jc,po]
theorem b_lss{n:Int}:bZ E .lss t x y (.int k m) (.int k n)=some (.bool (decide (m<n))):=by simp [bZ,gH,jc,jm]
theorem b_leq{n:Int}:bZ E .leq t x y (.int k m) (.int k n)=some (.bool (decide (m<=n))):=by
 simp only [bZ,gH,jc,jm,cond_true];by_cases a:m<=n
 . rw [decide_eq_true a,decide_eq_false (by omega)];rfl
 . rw [decide_eq_false a,decide_eq_true (by omega)];rfl
theorem b_gtr{n:Int}:bZ E .gtr t x y (.int k m) (.int k n)=some (.bool (decide (n<m))):=by simp [bZ,gH,jc,jm]
theorem b_geq{n:Int}:bZ E .geq t x y (.int k m) (.int k n)=some (.bool (decide (n<=m))):=by
 simp only [bZ,gH,jc,jm,cond_true];by_cases a:n<=m
 . rw [decide_eq_true a,decide_eq_false (by omega)];rfl
 . rw [decide_eq_false a,decide_eq_true (by omega)];rfl
theorem mS{n:Int}(h:n≠0):bZ E .quo t x y (.int k m) (.int k n)=some (.int k (au k (m.tdiv n))):=by simp [bZ,gH,jc,po,h]
theorem jO{n:Int}(h:n≠0):bZ E .rem t x y (.int k m) (.int k n)=some (.int k (m.tmod n)):=by simp [bZ,gH,jc,po,h]
theorem mm_max{k':IntKind}{a b:Int}:iL true (.int k a) [.int k' b]=some (.int k (max a b)):=by
 simp only [iL,jm,cond_true];by_cases h:a<b
 . rw [decide_eq_true h];simp only [cond_true];rw [Int.max_eq_right (by omega)]
 . rw [decide_eq_false h];simp only [cond_false];rw [Int.max_eq_left (by omega)]
theorem mm_min{k':IntKind}{a b:Int}:iL false (.int k a) [.int k' b]=some (.int k (min a b)):=by
 simp only [iL,jm,cond_false];by_cases h:b<a
 . rw [decide_eq_true h];simp only [cond_true];rw [Int.min_eq_right (by omega)]
 . rw [decide_eq_false h];simp only [cond_false];rw [Int.min_eq_left (by omega)]
theorem my{o:Nat}{s:Option Nat}(a:E.agg t=some false)(c:h.load b o 1=some [v]):gm E h t (.pointer (some ⟨b,o,s⟩))=some v:=by simp [gm,a,c]
theorem wrap64{n:Int}(a: -9223372036854775808<=n)(b:n<9223372036854775808):au .i64 n=n:=by
 unfold au;cases n with
 | ofNat m=>have:Xt m (hf .i64)=true:=(by rw [Nat.blt_eq];simp only [hf];have c:(m:Int)<9223372036854775808:=b;omega);simp only [this,cond_true]| negSucc m=>have:Xt m (hf .i64)=true:=(by rw [Nat.blt_eq];simp only [hf];have: -9223372036854775808<=Int.negSucc m:=a;omega);simp only [sgn,this,cond_true]
theorem wG{c:Type}{a:c}{P:c->Prop}:(∃b,some a=some b/\P b)↔P a:=⟨fun⟨b,d,e⟩=>by cases d;exact e,fun h=>⟨a,rfl,h⟩⟩
theorem Dl{a:Bool}{P:Bool->Prop}:(∃t,Value.bool a=Value.bool t/\P t)↔P a:=⟨fun⟨b,c,d⟩=>by cases c;exact d,fun h=>⟨a,rfl,h⟩⟩
theorem cK:c8 (v::l) 0=v:=rfl
theorem dw:c8 (v::l) (i+1)=c8 l i:=rfl
section
variable{l:Loc}
theorem c_int{n:Int}:l.ev (.const (.int k n))=.int k n:=rfl
theorem c_bool{b:Bool}:l.ev (.const (.bool b))=.bool b:=rfl
theorem c_string{s:ByteArray}:l.ev (.const (.string s))=.string s:=rfl
theorem c_nilp:l.ev (.const (.pointer none))=.pointer none:=rfl
theorem c_nils:l.ev (.const (.slice none 0 0))=.slice none 0 0:=rfl
theorem c_nilm:l.ev (.const (.map none))=.map none:=rfl
theorem c_nilf:l.ev (.const .nilFunc)=.nilFunc:=rfl
theorem c_nili:l.ev (.const .nilIface)=.nilIface:=rfl
end
def one1:Option (List Value)->Option Value
 |some [v]=>some v|_=>none
theorem one1_some:one1 (some [v])=some v:=rfl
theorem EE{o:Nat}{s:Option Nat}(a:E.agg t=some false):gm E h t (.pointer (some ⟨b,o,s⟩))=one1 (h.load b o 1):=by simp only [gm,a];unfold one1;rfl
def gv(a:Bool):Option Value->Option Bool
 |some (.bool b)=>some (bif b then a else !a)
 |some (.tuple _)=>some false|_=>none
noncomputable def gj(a:Bool)(b:Tr Value):Option Oper->Option Bool
 |none=>some false| some o=>match o.dst with
   |none=>some false|some d=>gv a (b.get d)
theorem EU{c:Tr Value}{d:Option Tmp}{p:String}{e:Array Edge}{b:Bool}:cQ a c ⟨d,op,t,p,e,some (j,b)⟩=gj b c (a[j]?):=by
 simp only [cQ,gj];cases a[j]? with
 |none=>rfl| some o=>
   simp only [];cases o.dst with
   |none=>rfl| some d=>
     simp only [gv];cases c.get d with
     |none=>rfl|some v=>cases v<;>rfl
theorem gj_some{a:Bool}{b:Tr Value}{d:Tmp}{p:String}{c:Array Edge}{g:Option (Nat×Bool)}:gj a b (some ⟨some d,op,t,p,c,g⟩)=gv a (b.get d):=rfl
theorem gv_true{b:Bool}:gv true (some (.bool b))=some b:=by cases b<;>rfl
theorem gv_false{b:Bool}:gv false (some (.bool b))=some (!b):=by cases b<;>rfl
theorem gv_tuple{a:Bool}{x:Array Value}:gv a (some (.tuple x))=some false:=rfl
theorem u_not{b:Bool}:unP .not (.bool b)=some (.bool (!b)):=rfl
theorem target_fn{g:FuncId}{a b:Array Value}:target (.func (.func g) a b) args=some (.call g (a.toList++args++b.toList)):=rfl
theorem n_new{x:Blk}:(h.new x).n=h.n+1:=rfl
def aT(E:Env)(f:FuncId)(args:List Value)(h:Hp)(v:Value):Prop:=Ret E f args h fun a b=>a=v/\Gr h b
theorem cF{Q:gL}{k:List Fr}{l:Loc}{b:Code}:Run E (lim E) cx Q (.code (.loop b)::k) .normal l h↔Run E (lim E) cx Q (.code b:: .code (.loop b)::k) .normal l h:=by
 rw [<-run_seq];simp only [Run];have:aV E (lim E) cx (.loop b) l h=aV E (lim E) cx (.seq b (.loop b)) l h:=by
  simp only [aV];cases aV E (lim E) cx b l h with
  |none=>rfl| some q=>
    obtain⟨e,a,c⟩:=q;cases e with
    |normal=>show(lim E).code cx (.loop b) a c=_;rw [zt];rfl|exit i=>rfl|ret=>rfl|pan v=>rfl
 rw [this]
def lenK(r:Option (dT×Hp))(h:Hp):Option Value->Option (dT×Hp)
 |some v=>some (.val v,h)|none=>r
theorem o_lenK:aop E ρ h (.call ⟨.builtin .len,#[x],#[t]⟩)=lenK (match ρ x with
 | .map (some r)=>match h.get r with
   |some (.map a _)=>match E.und t with
    |some (.map _ _)=>some (.val (.int .i64 (.ofNat a.length)),h)|_=>none
   |_=>none
 |_=>none) h (lenP E t (ρ x)):=by
 simp only [aop,pop];cases lenP E t (ρ x)with
 |some v=>rfl| none=>
   simp only [lenK];cases ρ x<;>rfl
theorem natOf_nn{i:Int}(h:0<=i):je i=some i.toNat:=by
 cases i with
 |ofNat n=>rfl|negSucc n=>exact absurd h (by simp)
theorem idxP_in{i:Int}(h0:0<=i)(a:i<n):iP (.int k i) n=some i.toNat:=by
 simp only [iP,natOf_nn h0];have:Xt i.toNat n=true:=by rw [Nat.blt_eq];omega
 rw [this];rfl
theorem ia(a:i<n):iP (.int k (i:Int)) n=some i:=by rw [idxP_in (Int.natCast_nonneg i) (by omega)];simp
theorem ia_slice{k:Nat}{a:Addr}{c:Nat}(b:E.und t=some (.slice e))(d:E.sz e=some k):gw E t (.slice (some a) n c) v=(iP v n).map fun i=>.pointer (some (iq a (i*k))):=by simp only [gw,b,d];cases iP v n<;>rfl
theorem am{l:Loc}{K:Ex->Loc->Hp->Prop}(a:aT E f args h v)(b: ∀h',Gr h h'->K .normal (l.put o.dst v) h'):hU E cx o l K (some (.call f args,h)):=
 step_ret a fun c h' ⟨e,g⟩=>by rw [e];exact b h' g
theorem yB{K:Value->Hp->Prop}(a:aT E f args h v)(b: ∀h',Gr h h'->K v h'):me E K (some (.call f args,h)):=
 uT a fun c h' ⟨e,g⟩=>by rw [e];exact b h' g
section
variable(E:Env)(cx:Cx)(Q:gL)
def GStep(a:List Oper)(o:Oper)(os:List Oper)(k:List Fr)(l:Loc)(h:Hp):Option Bool->Prop
 |some true=>hU E cx o l (fun e b c=>Run E (lim E) cx Q (.ops a os::k) e b c) (aop E l.ev h o.op)
 |some false=>Run E (lim E) cx Q (.ops a os::k) .normal (l.put o.dst (.tuple #[])) h|none=>False
def CStep(a b:Code)(k:List Fr)(l:Loc)(h:Hp):Value->Prop
 | .bool true=>Run E (lim E) cx Q (.code a::k) .normal l h| .bool false=>Run E (lim E) cx Q (.code b::k) .normal l h|_=>False
def yw(a:List Oper)(q:Nat)(ps:List (Nat×Nat))(o:Oper)(os:List Oper)(i:Nat)(c:List (Nat×Tch))(k:List Fr)(l:Loc)(h:Hp):Option Bool->Bool->Prop
 |some true,false=>me E (fun v b=>Run E (lim E) cx Q (.opsD a q ps os (i+1) (iS i c (cV l.ev false o.op h b))::k) .normal (l.put o.dst v) b) (aop E l.ev h o.op)
 |some true,true=>me E (fun v b=>Xb h.n b.lo=true/\Run E (lim E) cx Q (.opsD a q ps os (i+1) (iS i c (cV l.ev true o.op h h))::k) .normal (l.put o.dst v) {b with lo:=h.lo}) (aop E l.ev {h with lo:=h.n} o.op)
 |some false,_=>Run E (lim E) cx Q (.opsD a q ps os (i+1) c::k) .normal (l.put o.dst (.tuple #[])) h|none,_=>False
end
section
variable{E:Env}{cx:Cx}{Q:gL}{k:List Fr}{l:Loc}{h:Hp}
theorem r_ops:Run E (lim E) cx Q (.ops a (o::os)::k) .normal l h↔GStep E cx Q a o os k l h (cQ a l.regs o):=by
 rw [CM];cases cQ a l.regs o with
 |none=>exact⟨fun⟨_,e,_⟩=>(by cases e),fun h=>h.elim⟩
 | some b=>
   rw [wG];cases b with
   |true=>rw [if_pos rfl];exact then_step|false=>rw [if_neg (by simp)];exact zM
theorem g_true:GStep E cx Q a o os k l h (some true)↔hU E cx o l (fun e l' h'=>Run E (lim E) cx Q (.ops a os::k) e l' h') (aop E l.ev h o.op):=zM
theorem g_false:GStep E cx Q a o os k l h (some false)↔Run E (lim E) cx Q (.ops a os::k) .normal (l.put o.dst (.tuple #[])) h:=zM
theorem r_cond{a b:Code}:Run E (lim E) cx Q (.code (.cond c a b)::k) .normal l h↔CStep E cx Q a b k l h (l.ev c):=by
 rw [run_cond];cases l.ev c<;>(try (exact⟨fun⟨_,e,_⟩=>(by cases e),fun h=>h.elim⟩));rename_i t;rw [Dl];cases t with
 |true=>rw [if_pos rfl];exact zM|false=>rw [if_neg (by simp)];exact zM
theorem c_true{a b:Code}:CStep E cx Q a b k l h (.bool true)↔Run E (lim E) cx Q (.code a::k) .normal l h:=zM
theorem c_false{a b:Code}:CStep E cx Q a b k l h (.bool false)↔Run E (lim E) cx Q (.code b::k) .normal l h:=zM
theorem r_opsD{c:List (Nat×Tch)}:Run E (lim E) cx Q (.opsD a q ps (o::os) i c::k) .normal l h↔yw E cx Q a q ps o os i c k l h (cQ a l.regs o) (fS E q i o.op):=by
 rw [run_opsD];cases cQ a l.regs o with
 |none=>exact⟨fun⟨_,e,_⟩=>(by cases e),fun h=>h.elim⟩
 | some b=>
   rw [wG];cases b with
   | true=>
     rw [if_pos rfl];cases fS E q i o.op with
     |true=>rw [if_pos rfl];exact zM|false=>rw [if_neg (by simp)];exact zM
   |false=>rw [if_neg (by simp)];exact zM
theorem d_skip{c:List (Nat×Tch)}{b:Bool}:yw E cx Q a q ps o os i c k l h (some false) b↔Run E (lim E) cx Q (.opsD a q ps os (i+1) c::k) .normal (l.put o.dst (.tuple #[])) h:=zM
theorem jv{a:List (Nat×Tch)}:iS i a none=a:=rfl
theorem aM{b:Tch}{a:List (Nat×Tch)}:iS i a (some b)=(i,b)::a:=rfl
theorem aO{a:List (Nat×Tch)}:c7 a []=true:=rfl
theorem guard_no{b:Tr Value}{d:Option Tmp}{p:String}{c:Array Edge}:cQ a b ⟨d,op,t,p,c,none⟩=some true:=rfl
end
theorem b_eqlB{a b:Bool}(c:E.und t=some .bool):bZ E .eql t x y (.bool a) (.bool b)=some (.bool (bif a then b else !b)):=by simp [bZ,iu,fI,c]
theorem b_neqB{a b:Bool}(c:E.und t=some .bool):bZ E .neq t x y (.bool a) (.bool b)=some (.bool (!(bif a then b else !b))):=by simp [bZ,iu,fI,c]
theorem same_bool{d:Bool}:(bif d then d else !d)=true:=by cases d<;>rfl
noncomputable def boxR(h:Hp)(t:TypeId):Value->Option (dT×Hp)
 | .chan _=>none|v=>some (.val (ptrTo h.n),h.new (.cells (Tr.ofList (ag v)) (ag v).length t 1))
theorem o_boxR:aop E ρ h (.box t x)=boxR h t (ρ x):=by simp only [aop];cases ρ x<;>rfl
noncomputable def allocR(h:Hp)(t:TypeId):Option (List Value)->Option (dT×Hp)
 |none=>none|some z=>some (.val (ptrTo h.n),h.new (.cells (Tr.ofList z) z.length t 1))
theorem o_allocR:aop E ρ h (.alloc t)=allocR h t (E.zero t):=by simp only [aop];cases E.zero t<;>rfl
section
variable{E:Env}{cx:Cx}{o:Oper}{l:Loc}{K:Ex->Loc->Hp->Prop}{h:Hp}
theorem aw{ops:List Oper}(h:((ops.any uo||uE ops)&&ops.all (jn ops.length))=false):cB ops=ops:=by unfold cB;rw [h];rfl
theorem ar{Q:gL}{k:List Fr}(b:cB ops.toList=os)(c:j8 E os=some (q,ps))(d:Run E (lim E) cx Q (.opsD os q ps os 0 []::k) .normal l h)(a:E.cut cx.fn=false:=by rfl):Run E (lim E) cx Q (.code (.region id ops true)::k) .normal l h:=(run_draw a b c).2 d
theorem EG{Q:gL}{k:List Fr}(b:lH ops.toList (ops.toList.length-1)=true)(c:cutN ops.toList=n)(d:cB (ops.toList.take n)=os)(e:j8 E os=some (q,ps))
 (f:Run E (lim E) cx Q (.opsD os q ps os 0 []:: .ops ops.toList (ops.toList.drop n)::k) .normal l h) (a:E.cut cx.fn=true:=by rfl) (hf:uX E ops.toList=false:=by rfl):Run E (lim E) cx Q (.code (.region id ops true)::k) .normal l h:=run_split a b hf c d e f
end
theorem CJ(g:Gr {h with lo:=h.n} h'):Xb h.n h'.lo=true:=g.hlo
theorem gr_lo(g:Gr {h with lo:=h.n} h'):Gr h {h' with lo:=h.lo}:=
 ⟨g.ok0,g.ok,g.n,g.get,fun _ _ h=>h⟩
theorem hush_s:fS E q i op=(decide (q/2 ^i%2=1)&&decide (3<=cls E op)):=by unfold fS;rw [Nat.testBit_eq_decide_div_mod_eq,fD]
theorem Dh{K:Value->Hp->Prop}(a:aT E f args {h with lo:=h.n} v)(b: ∀h',Gr h h'->K v h'):
 me E (fun v h'=>Xb h.n h'.lo=true/\K v {h' with lo:=h.lo}) (some (.call f args,{h with lo:=h.n})):=
 yB a fun h' g=>⟨CJ g,b _ (gr_lo g)⟩
section
variable(E:Env)(cx:Cx)(Q:gL)(a:List Oper)(q:Nat)(ps:List (Nat×Nat))(o:Oper)(os:List Oper)(i:Nat)(k:List Fr)(l:Loc)
def DN(c:Hp->List (Nat×Tch))(x:Option (dT×Hp)):Prop:=me E (fun v b=>Run E (lim E) cx Q (.opsD a q ps os (i+1) (c b)::k) .normal (l.put o.dst v) b) x
def DQ(h:Hp)(c:List (Nat×Tch))(x:Option (dT×Hp)):Prop:=me E (fun v b=>Xb h.n b.lo=true/\Run E (lim E) cx Q (.opsD a q ps os (i+1) c::k) .normal (l.put o.dst v) {b with lo:=h.lo}) x
end
section
variable{E:Env}{cx:Cx}{Q:gL}{a:List Oper}{q:Nat}{ps:List (Nat×Nat)}{o:Oper}{os:List Oper}{i:Nat}{k:List Fr}{l:Loc}{h:Hp}{tr:List (Nat×Tch)}{tf:Hp->List (Nat×Tch)}
theorem dn_loud:yw E cx Q a q ps o os i tr k l h (some true) false↔DN E cx Q a q ps o os i k l (fun h'=>iS i tr (cV l.ev false o.op h h')) (aop E l.ev h o.op):=zM
theorem dn_quiet:yw E cx Q a q ps o os i tr k l h (some true) true↔DQ E cx Q a q ps o os i k l h (iS i tr (cV l.ev true o.op h h)) (aop E l.ev {h with lo:=h.n} o.op):=zM
theorem dn_val:DN E cx Q a q ps o os i k l tf (some (.val v,h'))↔Run E (lim E) cx Q (.opsD a q ps os (i+1) (tf h')::k) .normal (l.put o.dst v) h':=zM
theorem dn_skip:DN E cx Q a q ps o os i k l tf (some (.skip,h'))↔Run E (lim E) cx Q (.opsD a q ps os (i+1) (tf h')::k) .normal (l.put o.dst (.tuple #[])) h':=zM
theorem bQ{P:Value->Hp->Prop}(b:Ret E f args h P)(c: ∀v h',P v h'->Run E (lim E) cx Q (.opsD a q ps os (i+1) (tf h')::k) .normal (l.put o.dst v) h'):DN E cx Q a q ps o os i k l tf (some (.call f args,h)):=uT b c
theorem bg(b:aT E f args h v)(c: ∀h',Gr h h'->Run E (lim E) cx Q (.opsD a q ps os (i+1) (tf h')::k) .normal (l.put o.dst v) h'):DN E cx Q a q ps o os i k l tf (some (.call f args,h)):=yB b c
theorem sK(b:aT E f args {h with lo:=h.n} v)(c: ∀h',Gr h h'->Run E (lim E) cx Q (.opsD a q ps os (i+1) tr::k) .normal (l.put o.dst v) h'):DQ E cx Q a q ps o os i k l h tr (some (.call f args,{h with lo:=h.n})):=Dh b c
theorem dq_ret{P:Value->Hp->Prop}(b:Ret E f args {h with lo:=h.n} fun v h'=>Gr {h with lo:=h.n} h'/\P v {h' with lo:=h.lo})(c: ∀v h',Gr h h'->P v h'->Run E (lim E) cx Q (.opsD a q ps os (i+1) tr::k) .normal (l.put o.dst v) h'):DQ E cx Q a q ps o os i k l h tr (some (.call f args,{h with lo:=h.n})):=
 uT b fun v h' ⟨g,p⟩=>⟨CJ g,c v _ (gr_lo g) p⟩
end
theorem an:ptrTo b=.pointer (some ⟨b,0,none⟩):=rfl
section
open Go.ChangeShapes Go.WideShapes Go.RowKit
theorem len2{c:Type}{l:List c}(h:l.length=2): ∃a b,l=[a,b]:=by
 match l,h with
 | [a,b],_=>exact⟨a,b,rfl⟩
section
variable{H:Type}{enc:TypeId×Value->H}{P:Program}
theorem uh(f:laidOutB P=true){W g:World}(i:Below W.heap.size W g): ∀{ts:List TypeId} {vs:List Value} {c:List (DataW H)} {ps:List MemPlace},(ts.all fun t=>P.readableRec t&&decide (t<P.types.size))=true->
 DataW.TrodAll enc P W 0 (fun _=>true) true ts vs c ps->(∀x∈ps,x.block<W.heap.size)->DataW.TrodAll enc P g 0 (fun b=>decide (b<W.heap.size)) true ts vs c ps
 | [],vs,c,ps,_,h,_=>by
   obtain⟨rfl,rfl,rfl⟩:=trodAll_nil h;exact rfl
 | t::ts,vs,c,ps,a,h,hlt=>by obtain⟨v,j,d,k,p,q,rfl,rfl,rfl,l,m⟩:=trodAll_cons h;simp only [List.all_cons,Xf,decide_eq_true_eq]at a;exact⟨p,q,Below.trod f a.1.1 a.1.2 l i (fun x e=>hlt x (by simp [e])),uh f i a.2 m (fun x e=>hlt x (by simp [e])),rfl⟩
theorem AQ{f:Func}{s:ChangeSpec}{a b:Bool}{u:World}{args:Array Value}{g:List (DataW H)}{c:List MemPlace}{bt:TypeId}
 (y:laidOutB P=true) (k:(f.params.toList.all fun t=>P.readableRec t&&decide (t<P.types.size))=true) (v:s.vars=[])
 (l:DataW.Whole enc P f.params.toList s.vars a W args.toList g [] c) (d:s.fn H (g++[])={results:=[.lit (.bool true)],args:=g}) (j:Below W.heap.size W u)
 (m:P.underlying bt=some .bool) (n:f.resultTypes=#[bt]):
 s.post enc P f a true b false W args (.bool true) u:=by
 have hlt:=l.lt;have o:=l;obtain⟨p,q,z,w,rfl,C,D⟩:=l;rw [v]at w;obtain⟨_,rfl⟩:=trodVars_none w;refine⟨g,[],_,[],p,[],o,?_,?_,?_,⟨j.os,j.output,fun i A=>?_⟩,fun h=>by cases h⟩
 . rw [d,n];exact trodAll_cons_mk (shut_bool m _) trodAll_mk0
 . rw [d];exact uh y j k z (fun x B=>hlt x (by simpa using B))
 . rw [d,v];rfl
 . rw [j.block i A]
   split
   . rename_i r e;rw [r]at e;cases e;exact⟨rfl,rfl,rfl,fun _ _=>rfl⟩
   . rename_i r e;rw [r]at e;cases e;exact .inr ⟨rfl,rfl⟩
   . rfl
end
end
section
open Go.ChangeShapes Go.WideShapes Go.RowKit
noncomputable section
def lS(n:Nat):Value->Value
 | .bool b=>.bool b| .int k i=>.int k i| .string s=>.string s| .pointer none=>.pointer none| .pointer (some a)=>if a.spot=none/\a.block<n then .pointer (some ⟨a.block+16,a.off,none⟩)else poison
 | .slice none 0 0=>.slice none 0 0| .slice (some a) c d=>if c<=d then(if a.spot=none/\a.block<n then .slice (some ⟨a.block+16,a.off,none⟩) c d else .slice (some ⟨0,0,none⟩) c d)else poison
 |_=>poison
def absA(n:Nat):Value->Value
 | .agg a=>.agg ⟨a.toList.map (lS n)⟩|v=>lS n v
def absO(n:Nat):Obj->Blk
 | .cells a _ _=>.cells (Tr.ofList (a.toList.map (lS n))) (a.toList.map (lS n)).length 0 0|_=>.dead
def hpW(W:World):Hp:={n:=16+W.heap.size,t:=Tr.ofList (Xh 16 .dead++W.heap.toList.map (absO W.heap.size)),lo:=16+W.heap.size}
def muW(W:World):Mu:=fun b=>if b<16 then .dead else match W.heap[b-16]? with
 |some (.cells a _ _)=>.blk (b-16) 0 a.size|some _=>.dead|none=>.none
theorem hpW_ok(W:World):(hpW W).t.Sized (hpW W).n:=by
 have h:=Tr.sized_ofList (Xh 16 Blk.dead++W.heap.toList.map (absO W.heap.size));have a:(Xh 16 Blk.dead++W.heap.toList.map (absO W.heap.size)).length=16+W.heap.size:=by grind
 rw [a]at h;exact h
theorem hpW_dead(W:World)(h:b<16):(hpW W).get b=some .dead:=by show(Tr.ofList _).get b=_;rw [Tr.get_ofList,Xs (by simpa using h),Xu,if_pos h]
theorem uQ(W:World)(c:Nat):(hpW W).get (c+16)=(W.heap[c]?).map (absO W.heap.size):=by show(Tr.ofList _).get (c+16)=_;rw [Tr.get_ofList,List.getElem?_append_right (by simp)];simp
theorem qd(W:World)(c:Nat):muW W (c+16)=match W.heap[c]? with
 |some (.cells cs _ _)=>.blk c 0 cs.size|some _=>.dead|none=>.none:=by
 rfl
theorem arel_W{a:Addr}(h:a.spot=none/\a.block<W.heap.size):gf (muW W) ⟨a.block+16,a.off,none⟩ a:=by obtain⟨b,o,s⟩:=a;grind[gf,qd,Xj]
theorem vrel_V(W:World)(v:Value):aB (muW W) (lS W.heap.size v) v:=by
 cases v<;>(try exact .poison _)
 . exact .bool _
 . exact .int _ _
 . exact .string _
 . rename_i a;cases a with
   |none=>exact .nilp| some a=>
     simp only [lS]
     split
     . exact .ptr (arel_W ‹_›)
     . exact .poison _
 . rename_i a d e;cases a with
   | none=>
     cases d with
     | zero=>cases e with
       |zero=>exact .nils|succ n=>exact .poison _
     |succ n=>exact .poison _
   | some a=>
     simp only [lS]
     split
     . rename_i c
       split
       . rename_i h;refine .slice c ?_;have:=arel_W h;obtain⟨b,o,s⟩:=a;grind[eY,qd,Xj]
       . refine .slice c ?_;simp_all[eY,muW,Xc]
     . exact .poison _
theorem vrel_A(W:World)(v:Value):aB (muW W) (absA W.heap.size v) v:=by
 cases v
 case agg b=>
  refine .agg (by simp) fun i x c a d=>?_;simp only [Xq,Xk]at a;obtain⟨y,e,rfl⟩:=a;grind[vrel_V]
 all_goals (unfold absA;exact vrel_V W _)
theorem hrelW(W:World):a9 (muW W) (hpW W) W:=by
 refine⟨hpW_ok W,fun b c a e d=>?_,fun b d=>?_,fun b t c a e f l u w=>?_,fun b d=>?_⟩
 . have x:16<=b:=by
    rcases Xn b 16 with h|h
    . simp_all[muW,if_pos]
    . exact h
   obtain⟨k,rfl⟩: ∃k,b=k+16:=⟨b-16,by omega⟩;rw [qd]at d
   split at d
   next m n p q=>
    cases d;refine⟨absO W.heap.size (.cells m n p),_,by rw [uQ,q];rfl,q,m,n,p,rfl,rfl,by simp,Tr.sized_ofList _,fun i v g=>?_,fun h=>absurd rfl h⟩;rw [Tr.get_ofList]at g;simp only [Xq,Xk]at g;obtain⟨y,z,rfl⟩:=g;grind[vrel_V]
   next=>cases d
   next=>cases d
 . rcases Xn b 16 with h|h
   . exact hpW_dead W h
   . obtain⟨k,rfl⟩: ∃k,b=k+16:=⟨b-16,by omega⟩;rw [qd]at d
     split at d
     next=>cases d
     next o r j=>
      rw [uQ,j];cases o<;>first|rfl|grind
     next=>cases d
 . have s: ∀b c a e,muW W b=.blk c a e->b=c+16:=by
    intro b c a e d;rcases Xn b 16 with h|h
    . simp_all[muW,if_pos]
    . obtain⟨k,rfl⟩: ∃k,b=k+16:=⟨b-16,by omega⟩;grind[qd]
   grind
 . show b<16+W.heap.size;rcases Xn b 16 with h|h
   . omega
   . obtain⟨k,rfl⟩: ∃k,b=k+16:=⟨b-16,by omega⟩;rw [qd]at d;grind
theorem globW(W:World):nU (muW W):=by intro g a;simp_all[gf,muW,if_pos]
theorem belowW{w':World}{f:Mu}(e:Ext (muW W) (hpW W) W f h' w'):Below W.heap.size W w':=by
 refine⟨e.os,e.tape,e.output,e.wsize,fun c i=>?_⟩;cases m:W.heap[c]with
 | cells g n o=>have j:W.heap[c]? =some (.cells g n o):=(by grind);have p:muW W (c+16)=.blk c 0 g.size:=(by rw [qd,j]);exact(e.ro (c+16) c 0 g.size _ _ 0 p (by rw [uQ,j];rfl)).1| _ =>
   refine e.frame c i fun b l q a=>?_;rcases Xn b 16 with h|h
   . unfold muW at a;rw [if_pos h]at a;cases a
   . obtain⟨k,rfl⟩: ∃k,b=k+16:=⟨b-16,by omega⟩;rw [qd]at a
     split at a
     next r s t d=>
      cases a;rw [Xj i,m]at d;cases d
     next=>cases a
     next=>cases a
theorem calls_W(d:EOk E P){args:Array Value}(h:aT E f (args.toList.map (absA W.heap.size)) (hpW W) (.bool true)):
 Calls P f args W fun e w'=>e=.returned (.bool true)/\Below W.heap.size W w':=by
 obtain⟨v,A,j,rfl,g⟩:=h;intro k;obtain⟨_,a⟩:=lim_ok d _ _ _ _ _ _ _ j;have l:VL (muW W) (args.toList.map (absA W.heap.size)) args.toList:=by refine⟨by simp,fun i x B a C=>?_⟩;simp only [Xq,Xk]at a;obtain⟨y,D,rfl⟩:=a;grind[vrel_A]
 obtain⟨m,w',c,n,F,o,G,p,q,r,s⟩:=a (muW W) W args none k .normal (hrelW W) (globW W) l trivial (.inl rfl);have:=p.normal;subst this;obtain⟨H,b,t⟩:=r;cases t;obtain⟨u,w,z⟩:=b.res;exact⟨.returned (.bool true),w',n,⟨rfl,belowW o⟩,q,s,b.mode,b.defers,b.kind,u,w,z⟩
theorem load_W{a:Addr}(c:a.spot=none)(h:W.cell? (a.add i)=some v):(hpW W).load (a.block+16) (a.off+i) 1=some [lS W.heap.size v]:=by
 obtain⟨b,o,s⟩:=a;simp only []at c;subst c;have d:(Addr.mk b o none).add i=⟨b,o+i,none⟩:=by grind[Addr.add]
 rw [d]at h;unfold World.cell? at h;simp only []at h
 split at h
 next e k l f=>
  have g:Row (hpW W) (b+16) (e.toList.map (lS W.heap.size)) 0:=⟨_,_,by rw [uQ,f];rfl,Tr.sized_ofList _,fun j=>Tr.get_ofList _ j⟩;refine g.load1 ?_;grind
 grind
end
end
def argEq:Value->Value->Bool
 | .int k a,.int c b=>jF k c&&jh a b| .bool a,.bool b=>bif a then b else !b
 | .string s,.string u=>iW (aP s) (aP u)|_,_=>false
def rq:List Value->List Value->Bool
 | [],[]=>true|a::l,b::m=>argEq a b&&rq l m|_,_=>false
def orcOf:List (Nat×List Value×Value)->Nat->List Value->Option Value
 | [],_,_=>none|(f,as,v)::l,g,a=>bif Xd f g&&rq as a then some v else orcOf l g a
theorem Br{a b:Value}(h:argEq a b=true):a=b:=by
 unfold argEq at h
 split at h
 . rename_i k m c n;simp only [Xf]at h;have d:k=c:=(by simpa [iZ]using h.1);have e:m=n:=(by simpa [iX]using h.2);rw [d,e]
 . rename_i a b;cases a<;>cases b<;>first|rfl|cases h
 . rename_i s u;have this:s.data.toList=u.data.toList:=(by have:=h;rw [kU]at this;simpa [aP]using this);cases s with|mk a=>cases u with|mk b=>rw [show a=b from Array.ext' this]
 . cases h
theorem zT: ∀{a b:List Value},rq a b=true->a=b
 | [],[],_=>rfl| [],_::_,h=>by simp [rq]at h|_::_,[],h=>by simp [rq]at h| a::x,b::y,h=>by simp only [rq,Xf]at h;rw [zT h.2,Br h.1]
theorem z8{P:Nat->List Value->Value->Prop}: ∀{l:List (Nat×List Value×Value)},(∀e∈l,P e.1 e.2.1 e.2.2)-> ∀{g:Nat} {args:List Value} {v:Value},orcOf l g args=some v->P g args v
 | [],_,g,args,v,h=>by cases h
 | (f,as,x)::l,b,g,args,v,h=>by
   simp only [orcOf]at h;cases a:Xd f g&&rq as args with
   | true=>
     rw [a]at h;cases h;simp only [Xf]at a;have c:=Xe a.1;have d:=zT a.2;subst c;subst d;exact b _ (Xo)
   | false=>
     rw [a]at h;exact z8 (fun e i=>b e (List.mem_cons_of_mem _ i)) h
def isVal(v:Value)(r:Option (Out×Option (Value×Bool)×Hp)):Bool:=match r with
 |some (.ret u,none,_)=>argEq u v|_=>false
theorem isVal_ret{r:Option (Out×Option (Value×Bool)×Hp)}(h:isVal v r=true): ∃h',r=some (.ret v,none,h'):=by
 unfold isVal at h
 split at h
 . rw [Br h];exact⟨_,rfl⟩
 . cases h
def Known(E:Env)(P:Program)(e:Nat×List Value×Value):Prop:=(∃a,E.fn e.1=some a/\a.body.isSome=true)/\OrcAt P e.1 e.2.1 e.2.2
theorem known_of(c:EOk E P){f:Nat}(b:(args.all dA&&dA v)=true)(a:isVal v ((runK E n).call f args none hp0)=true):Known E P (f,args,v):=by simp only [Xf]at b;obtain⟨d,a⟩:=isVal_ret a;rw [runK_call]at a;exact Ew c b.1 b.2 a
theorem eok_table(b:EOk E P){l:List (Nat×List Value×Value)}(c: ∀e∈l,Known E P e):EOk (zH E (orcOf l)) P:=
 eok_with b fun _ _ _ h=>z8 (P:=fun g a v=>Known E P (g,a,v)) c h
inductive Ob where
 |row (l:List Value) (md:Nat)
 |map (es:List (Value×Value×Nat)) (c:Nat)
 |loop (x:gu)
 |dfr
def Has(h:Hp)(b:Nat):Ob->Prop
 | .row l a=>Row h b l a| .map d c=>h.get b=some (.map d c)| .loop x=>h.get b=some (.loop x)| .dfr=>h.get b=some .dfr
theorem Row.of_get(e:h'.get b=h.get b)(k:Row h b l md):Row h' b l md:=by obtain⟨t,f,a,c,d⟩:=k;exact⟨t,f,by rw [e];exact a,c,d⟩
theorem Has.of_get{h h':Hp}{b:Nat}{o:Ob}(e:h'.get b=h.get b)(k:Has h b o):Has h' b o:=by
 cases o with
 |row l a=>exact Row.of_get e k|map d c=>exact e.trans k|loop x=>exact e.trans k|dfr=>exact e.trans k
theorem Has.lt{h:Hp}(a:OZ h){b:Nat}{o:Ob}(k:Has h b o):b<h.n:=by
 cases o with
 |row l d=>exact Row.lt a k|map e c=>exact iz a k|loop x=>exact iz a k|dfr=>exact iz a k
structure Mo(M:Nat->Prop)(h h':Hp):Prop where
 ok0:OZ h
 ok:OZ h'
 n:h.n<=h'.n
 get: ∀b,b<h.n-> ¬M b->h'.get b=h.get b
 lo: ∀x,x<=h.n->x<=h.lo->(∀b,M b->x<=b)->x<=h'.lo
abbrev NoM:Nat->Prop:=fun _=>False
theorem Gr.fr(g:Gr h h'):Mo M h h':=⟨g.ok0,g.ok,g.n,fun b a _=>g.get b a,fun x c d _=>g.lo x c d⟩
theorem Mo.gr(g:Mo NoM h h'):Gr h h':=⟨g.ok0,g.ok,g.n,fun b a=>g.get b a (fun x=>x),fun x c d=>g.lo x c d (fun _ h=>h.elim)⟩
theorem Mo.refl{M:Nat->Prop}{h:Hp}(a:OZ h):Mo M h h:=(Gr.refl a).fr
theorem Mo.trans{M M':Nat->Prop}{a b c:Hp}(x:Mo M a b)(y:Mo M' b c)(e: ∀i,M' i->M i\/a.n<=i):Mo M a c:=
 ⟨x.ok0,y.ok,Xm x.n y.n,fun i f g=>(y.get i (Nat.lt_of_lt_of_le f x.n) (fun d=>(e i d).elim g (fun h=>by omega))).trans (x.get i f g),
  fun i k m l=>y.lo i (Xm k x.n) (x.lo i k m l) fun j n=>(e j n).elim (l j) (fun h=>by omega)⟩
theorem Mo.mono{M':Nat->Prop}{a b:Hp}(x:Mo M a b)(c: ∀i,M i->M' i):Mo M' a b:=
 ⟨x.ok0,x.ok,x.n,fun i d e=>x.get i d (fun h=>e (c i h)),fun i f g k=>x.lo i f g fun j l=>k j (c j l)⟩
theorem Mo.new{M:Nat->Prop}{a h:Hp}(g:Mo M a h)(x:Blk):Mo M a (h.new x):=g.trans (M':=NoM) (Gr.new g.ok x).fr (fun _ h=>h.elim)
theorem Mo.put{M:Nat->Prop}{a h:Hp}(g:Mo M a h){b:Nat}(f:a.n<=b\/M b)(x:Blk):Mo M a (h.put b x):=by refine g.trans (M':=fun i=>i=b) ⟨g.ok,put_ok g.ok b x,Xc _,fun i j c=>dH (fun e=>c e.symm),fun i k l d=>?_⟩ (fun i h=>by grind);show i<=dW b h.lo;have:=d b rfl;grind[dW,Xb]
theorem Mo.has{a:Hp}(g:Mo M a h){o:Ob}(k:Has a b o)(c: ¬M b):Has h b o:=Has.of_get (g.get b (k.lt g.ok0) c) k
abbrev GL:=Value×Nat×List Value
def eH:GL->Option Nat
 |(.slice (some a) _ _,_,_)=>some a.block|_=>none
def ig(h:Hp)(p:GL):Prop:=(p.1=.slice none 0 0/\p.2.2=[])\/ ∃b n,p.1=.slice (some ⟨b,0,some p.2.1⟩) n n/\n*p.2.1=p.2.2.length/\Row h b p.2.2 1
def keys(L:List (Nat×Ob))(G:List GL):List Nat:=L.map Prod.fst++G.filterMap eH
structure St(M:Nat->Prop)(h0 h:Hp)(L:List (Nat×Ob))(G:List GL):Prop where
 fr:Mo M h0 h
 own: ∀p∈L,(h0.n<=p.1\/M p.1)/\Has h p.1 p.2
 gown: ∀p∈G,ig h p/\ ∀b,eH p=some b->h0.n<=b\/M b
 apart:(keys L G).Nodup
section
variable{M:Nat->Prop}{h0 h:Hp}{L:List (Nat×Ob)}{G:List GL}
theorem ig.of_get{h':Hp}{p:GL}(k:ig h p)(e: ∀b,eH p=some b->h'.get b=h.get b):ig h' p:=by
 rcases k with k|⟨b,n,a,c,d⟩
 . exact .inl k
 . refine .inr ⟨b,n,a,c,Row.of_get (e b ?_) d⟩;obtain⟨v,k,f⟩:=p;simp only []at a;subst a;rfl
theorem ig.lt(d:OZ h){p:GL}(k:ig h p){b:Nat}(c:eH p=some b):b<h.n:=by
 rcases k with k|⟨j,n,a,e,f⟩
 . obtain⟨v,g,i⟩:=p;obtain⟨a,e⟩:=k;simp only []at a;subst a;cases c
 . obtain⟨v,g,i⟩:=p;simp only []at a;subst a;cases c;exact Row.lt d f
theorem iQ{p:Nat×Ob}(a:p∈L):p.1∈keys L G:=List.mem_append_left _ (Xx a)
theorem fF{p:GL}(a:p∈G)(c:eH p=some b):b∈keys L G:=List.mem_append_right _ (List.mem_filterMap.2 ⟨p,a,c⟩)
theorem St.key_lt(S:St M h0 h L G)(a:b∈keys L G):b<h.n:=by
 unfold keys at a;rcases List.mem_append.1 a with a|a
 . obtain⟨p,c,rfl⟩:=List.mem_map.1 a;exact(S.own p c).2.lt S.fr.ok
 . obtain⟨p,c,d⟩:=List.mem_filterMap.1 a;exact(S.gown p c).1.lt S.fr.ok d
theorem St.init(a:OZ h):St M h h [] []:=⟨Mo.refl a,fun _ h=>(by cases h),fun _ h=>(by cases h),.nil⟩
theorem St.ok(S:St M h0 h L G):OZ h:=S.fr.ok
theorem St.gr(S:St NoM h0 h L G):Gr h0 h:=S.fr.gr
theorem St.push(S:St M h0 h L G){o:Ob}(d:h0.n<=b\/M b)(e:Has h b o)(c:b∉keys L G):St M h0 h ((b,o)::L) G:=
 ⟨S.fr,fun p a=>by
  rcases List.mem_cons.1 a with rfl|a
  . grind
  . exact S.own p a,S.gown,List.nodup_cons.2 ⟨c,S.apart⟩⟩
theorem St.step(S:St M h0 h L G){M':Nat->Prop}(f:Mo M' h h')(e: ∀b,M' b->M b\/h0.n<=b)(c: ∀b∈keys L G,¬M' b):St M h0 h' L G:=
 ⟨S.fr.trans f e,fun p a=>⟨(S.own p a).1,f.has (S.own p a).2 (c _ (iQ a))⟩,
  fun p a=>⟨(S.gown p a).1.of_get fun b d=>f.get b ((S.gown p a).1.lt S.ok d) (c b (fF a d)),(S.gown p a).2⟩,S.apart⟩
theorem St.call(S:St M h0 h L G)(g:Gr h h'):St M h0 h' L G:=S.step (M':=NoM) g.fr (fun _ h=>h.elim) (fun _ _ h=>h)
theorem St.new(S:St M h0 h L G){x:Blk}{o:Ob}(a:Has (h.new x) h.n o):St M h0 (h.new x) ((h.n,o)::L) G:=
 (S.call (Gr.new S.ok x)).push (.inl S.fr.n) a (fun b=>by have:=S.key_lt b;omega)
theorem St.newG(S:St M h0 h L G){x:Blk}{k:Nat}(d:n*k=vs.length)(f:Row (h.new x) h.n vs 1):St M h0 (h.new x) L ((.slice (some ⟨h.n,0,some k⟩) n n,k,vs)::G):=by
 have a:=S.call (Gr.new S.ok x);refine⟨a.fr,a.own,fun p c=>?_,?_⟩
 . rcases List.mem_cons.1 c with rfl|c
   . exact⟨.inr ⟨_,n,rfl,d,f⟩,fun b g=>by cases g;exact .inl S.fr.n⟩
   . exact a.gown p c
 . unfold keys;have e:List.filterMap eH ((Value.slice (some ⟨h.n,0,some k⟩) n n,k,vs)::G)=h.n::List.filterMap eH G:=rfl;rw [e];refine(List.perm_middle.nodup_iff).2 (List.nodup_cons.2 ⟨fun i=>?_,S.apart⟩);have:=S.key_lt i;omega
theorem St.nilG(S:St M h0 h L G){k:Nat}:St M h0 h L ((.slice none 0 0,k,[])::G):=
 ⟨S.fr,S.own,fun p a=>by
  rcases List.mem_cons.1 a with rfl|a
  . exact⟨.inl ⟨rfl,rfl⟩,fun b c=>by cases c⟩
  . exact S.gown p a,S.apart⟩
theorem oD{a:Type}{l:List a}{x y:a}(h:y∈l.set i x):y=x\/ ∃j,j≠i/\l[j]? =some y:=by rw [List.mem_iff_getElem?]at h;grind
theorem qr{a:Type}{l:List a}(h:l.Nodup){x:a}(b:l[i]? =some x)(c:l[j]? =some x):i=j:=by grind[Xi,Nat.lt_trichotomy,absurd,List.pairwise_iff_getElem]
theorem ou{L:List (Nat×Ob)}{G:List GL}{p:Nat×Ob}(a:L[i]? =some p):(keys L G)[i]? =some p.1:=by grind[keys,Xi,Xs]
theorem St.put(S:St M h0 h L G){i b:Nat}{o o':Ob}(g:L[i]? =some (b,o)){x:Blk}(q:Has (h.put b x) b o'):St M h0 (h.put b x) (L.set i (b,o')) G:=by
 have k:=S.own _ (zO g);have f:(keys L G)[i]? =some b:=ou g;refine⟨S.fr.put k.1 x,fun p a=>?_,fun p a=>⟨(S.gown p a).1.of_get fun c l=>?_,(S.gown p a).2⟩,?_⟩
 . rcases oD a with rfl|⟨j,m,a⟩
   . grind
   . have d:=S.own p (zO a);refine⟨d.1,d.2.of_get (dH fun e=>m ?_)⟩;have n:(keys L G)[j]? =some b:=(by rw [ou a];rw [e]);exact qr S.apart n f
 . refine dH fun e=>?_;subst e;have d:=S.apart;unfold keys at d;rw [List.nodup_append]at d;exact d.2.2 b (List.mem_map.2 ⟨_,zO g,rfl⟩) b (List.mem_filterMap.2 ⟨p,a,l⟩) rfl
 . have:keys (L.set i (b,o')) G=keys L G:=(by unfold keys;congr 1;rw [List.map_set];refine List.ext_getElem? fun j=>?_;grind);rw [this];exact S.apart
theorem St.row(S:St M h0 h L G){b:Nat}{l:List Value}{md:Nat}(a:(b,Ob.row l md)∈L):Row h b l md:=(S.own _ a).2
theorem St.ld(S:St M h0 h L G){o:Nat}(a:(b,Ob.row l md)∈L)(c:l[o]? =some v):h.load b o 1=some [v]:=(S.row a).load1 c
theorem St.lds(S:St M h0 h L G){o:Nat}(a:(b,Ob.row l md)∈L)(c:o+n<=l.length):h.load b o n=some ((l.drop o).take n):=(S.row a).load c
theorem m0{b:Type}{a:b}{l:List b}:a∈a::l:=Xo
theorem m1{c:Type}{a b:c}{l:List c}:a∈b::a::l:=.tail _ m0
theorem m2{d:Type}{a b c:d}{l:List d}:a∈b::c::a::l:=.tail _ m1
theorem m3{e:Type}{a b c d:e}{l:List e}:a∈b::c::d::a::l:=.tail _ m2
theorem m4{f:Type}{a b c d e:f}{l:List f}:a∈b::c::d::e::a::l:=.tail _ m3
theorem m5{g:Type}{a b c d e f:g}{l:List g}:a∈b::c::d::e::f::a::l:=.tail _ m4
theorem m6{i:Type}{a b c d e f g:i}{l:List i}:a∈b::c::d::e::f::g::a::l:=.tail _ m5
theorem m7{j:Type}{a b c d e f g i:j}{l:List j}:a∈b::c::d::e::f::g::i::a::l:=.tail _ m6
theorem St.old(S:St M h0 h L G){o:Nat}(e:h0.load b o n=some l)(a: ¬M b):h.load b o n=some l:=by have:=S.fr.get b (bC S.fr.ok0 e) a;grind[Hp.load]
end
def rP(h:Hp)(X:Hp->Option (dT×Hp))(F:Nat->Value)(o:Ob):Prop:=
 ∃a,(∀x,X {h with lo:=x}=some (.val (F h.n),({h with lo:=x}:Hp).new a))/\(OZ h->Has (h.new a) h.n o)
section
variable{M:Nat->Prop}{h0 h:Hp}{L:List (Nat×Ob)}{G:List GL}
section
variable{E:Env}{cx:Cx}{o:Oper}{l:Loc}{K:Ex->Loc->Hp->Prop}{X:Hp->Option (dT×Hp)}{F:Nat->Value}{ob:Ob}
theorem ae(N:rP h X F ob)(S:St M h0 h L G)(a: ∀h' b,St M h0 h' ((b,ob)::L) G->h0.n<=b->K .normal (l.put o.dst (F b)) h'):hU E cx o l K (X h):=by obtain⟨c,d,f⟩:=N;have e:X h=_:=d h.lo;rw [e];exact a _ _ (S.new (f S.ok)) S.fr.n
theorem cL{Q:gL}{k:List Fr}{c:List (Nat×Tch)}(N:rP h X F ob)(S:St M h0 h L G)
 (d: ∀h' b,St M h0 h' ((b,ob)::L) G->h0.n<=b->b=h.n->Run E (lim E) cx Q (.opsD a q ps os (i+1) c::k) .normal (l.put o.dst (F b)) h'):DQ E cx Q a q ps o os i k l h c (X {h with lo:=h.n}):=by
 obtain⟨e,f,g⟩:=N;rw [f];exact⟨Xa (Xc _),d _ _ (S.new (g S.ok)) S.fr.n rfl⟩
end
theorem bA(b: ∀x,v≠ .chan x):rP h (fun h=>boxR h t v) ptrTo (.row (ag v) 1):=by refine⟨.cells (Tr.ofList (ag v)) (ag v).length t 1,fun x=>?_,fun a=>qR a _ _ _⟩;cases v<;>first|rfl|grind
theorem aA{z:List Value}:rP h (fun h=>allocR h t (some z)) ptrTo (.row z 1):=
 ⟨.cells (Tr.ofList z) z.length t 1,fun _=>rfl,fun a=>qR a _ _ _⟩
noncomputable def mapR(h:Hp):Option (dT×Hp):=some (.val (.map (some h.n)),h.new (.map [] 0))
theorem EP:aop E ρ h (.makeMap t none)=mapR h:=rfl
theorem oq:rP h mapR (fun b=>.map (some b)) (.map [] 0):=⟨.map [] 0,fun _=>rfl,fun a=>by show(h.new _).get h.n=_;rw [h.get_new _ a,if_pos rfl]⟩
theorem BE(a:List Value): ∀n,(bJ a n).length=n*a.length
 |0=>by simp [bJ]|n+1=>by simp only [bJ,Xp,BE a n];rw [Nat.succ_mul];omega
theorem row_blank(a:OZ h)(z:Value)(n:Nat)(e:TypeId):Row (h.new (.cells (Tr.blank z n n) n e 1)) h.n (Xh n z) 1:=by
 refine⟨Tr.blank z n n,e,?_,?_,fun i=>?_⟩
 . rw [h.get_new _ a,if_pos rfl,Xw]
 . rw [Xw];exact Tr.sized_blank _ _ _ (Xc _)
 . rw [Tr.get_blank _ _ _ (Xc _),Xu]
def fk(E:Env)(e:TypeId)(a k:Nat)(b:List Value):Prop:=(∃i,E.ty e=some i/\i.bytes=a/\i.size=k)/\E.zero e=some b/\b.length=k
theorem mD{d k:Nat}{c:List Value}{kd kd':IntKind}{n:Int}(o:E.und t=some (.slice e))(u:fk E e d k c)(h0:0<=n)(v:n.toNat*(d+1)<=70368744177664):
 rP h (fun h=>dI (kM E h t (.int kd n) (.int kd' n))) (fun b=>.slice (some ⟨b,0,none⟩) n.toNat n.toNat) (.row (bJ c n.toNat) 1):=by
 obtain⟨⟨i,p,rfl,rfl⟩,q,w⟩:=u;obtain⟨m,rfl⟩:=Int.eq_ofNat_of_zero_le h0;have hle:Xb (m*(i.bytes+1)) 70368744177664=true:=Xa v;have r:Xd c.length i.size=true:=by simp_all
 have f:natV (.int kd (m:Int))=some m:=rfl;have g:natV (.int kd' (m:Int))=some m:=rfl;have s:(Xb m m&&Xb (m*(i.bytes+1)) 70368744177664)=true:=by simp_all
 by_cases y: ∃z,c=[z]
 . obtain⟨z,rfl⟩:=y;refine⟨.cells (Tr.blank z m m) m e 1,fun x=>?_,fun j=>?_⟩
   . simp only [kM,o,p,q,f,g,s,r,cond_true,dI];rfl
   . have:bJ [z] (m:Int).toNat=Xh m z:=by
      have: ∀n,bJ [z] n=Xh n z:=by intro n;induction n with
       |zero=>rfl|succ n A=>simp [bJ,A,List.replicate_succ]
      exact this m
     rw [this];exact row_blank j z m e
 . refine⟨.cells (Tr.ofList (bJ c m)) (m*i.size) e 1,fun x=>?_,fun j=>?_⟩
   . simp only [kM,o,p,q,f,g,s,r,cond_true];cases c with
     |nil=>rfl| cons a l=>
       cases l with
       |nil=>grind|cons b l=>rfl
   . have:=qR j (bJ c m) e 1;rw [BE,w]at this;show Row _ _ (bJ c m) 1;omega
theorem St.store(S:St M h0 h L G){E:Env}{t:TypeId}{i b off n md:Nat}{s:Option Nat}{l:List Value}{v:Value}(c:L[i]? =some (b,.row l md))(g:E.sz t=some n)(j: ∀x,v≠ .chan x)(d:(ag v).length=n)
 (hf:(ag v).all mO=true) (e:off+n<=l.length) (a:md≠0): ∃h',jX E h t (.pointer (some ⟨b,off,s⟩)) v=some h'/\St M h0 h' (L.set i (b,.row (lay l off (ag v)) md)) G/\Mo (· =b) h h':=by
 subst d;obtain⟨x,k,f⟩:=(S.row (zO c)).store S.ok a (vs:=ag v) e hf;refine⟨h.put b x,?_,S.put c f,(Mo.refl (M:=(· =b)) S.ok).put (.inr rfl) x⟩;grind[jX,Xd,ag,Xl]
section
variable{E:Env}{cx:Cx}{o:Oper}{l:Loc}{K:Ex->Loc->Hp->Prop}
theorem aE{x:Option Hp}{P:Hp->Prop}(a: ∃h',x=some h'/\P h')(b: ∀h',P h'->K .normal (l.put o.dst (.tuple #[])) h'):hU E cx o l K (gp x):=by obtain⟨h',rfl,c⟩:=a;exact b h' c
theorem dQ{x:Option (Hp×Value)}{P:Hp->Value->Prop}(a: ∃h' v,x=some (h',v)/\P h' v)(b: ∀h' v,P h' v->K .normal (l.put o.dst v) h'):hU E cx o l K (dI x):=by obtain⟨h',v,rfl,c⟩:=a;exact b h' v c
theorem cM{Q:gL}{k:List Fr}{b:Hp->List (Nat×Tch)}{x:Option Hp}{P:Hp->Prop}(c: ∃h',x=some h'/\P h')
 (d: ∀h',P h'->Run E (lim E) cx Q (.opsD a q ps os (i+1) (b h')::k) .normal (l.put o.dst (.tuple #[])) h'):DN E cx Q a q ps o os i k l b (gp x):=by
 obtain⟨h',rfl,e⟩:=c;exact d h' e
theorem mI{Q:gL}{k:List Fr}{b:Hp->List (Nat×Tch)}{x:Option (Hp×Value)}{P:Hp->Value->Prop}(c: ∃h' v,x=some (h',v)/\P h' v)
 (d: ∀h' v,P h' v->Run E (lim E) cx Q (.opsD a q ps os (i+1) (b h')::k) .normal (l.put o.dst v) h'):DN E cx Q a q ps o os i k l b (dI x):=by
 obtain⟨h',v,rfl,e⟩:=c;exact d h' v e
end
theorem sg{L:List (Nat×Ob)}{G:List GL}{p c:GL}(i:(keys L G).Nodup)(d:G[j]? =some p)(e:eH c=some b)(a:b∉keys L G):(keys L (G.set j c)).Nodup:=by
 obtain⟨hlt,f⟩:=List.getElem?_eq_some_iff.1 d;have k:G=G.take j++p::G.drop (j+1):=by rw [<-f,List.getElem_cons_drop hlt,List.take_append_drop]
 have g:G.set j c=G.take j++c::G.drop (j+1):=List.set_eq_take_append_cons_drop.trans (if_pos hlt);unfold keys at*
 rw [g,List.filterMap_append,List.filterMap_cons_some e,<-List.append_assoc];refine List.perm_middle.nodup_iff.2 (List.nodup_cons.2 ⟨fun l=>a ?_,?_⟩)
 . grind
 grind
theorem St.grow (S:St M h0 h L G)  {tx:TypeId} {u k m:Nat} {zs new:List Value} {x:Value} (J:G[j]? =some (v,k,vs)) (hu:E.und t=some (.slice e)) (he:fk E e u k zs) (K:0<u)
 (O:eR E tx=some false) (ac:aR h k x=some (m,new)) (hm:m*k=new.length) (z:0<k) (hf:new.all mO=true) (P:(vs.length+new.length)*(u+1)<=70368744177664) {ts:List TypeId}:
 ∃h' v',dM E h (t::tx::ts) v x=some (h',v')/\St M h0 h' L (G.set j (v',k,vs++new)):=by
 obtain⟨⟨i,hi,rfl,rfl⟩,hz,hl⟩:=he;have hlt:=(List.getElem?_eq_some_iff.1 J).1;obtain⟨hg,A⟩:=S.gown _ (zO J);have ad : ∀ a d,v=.slice a d d->d*i.size=vs.length->(a=none/\d=0\/ ∃b,a=some ⟨b,0,some i.size⟩/\Row h b vs 1)->
  ∃h' v',ic E h e i a d d m new=some (h',v')/\St M h0 h' L (G.set j (v',i.size,vs++new)):=by
  intro a d hv B ha;by_cases f:m=0
  . subst f;have:new=[]:=(by grind);subst this;refine⟨h,v,?_,?_⟩
    . unfold ic;rw [Xa (by omega:d+0<=d)];grind
    . rw [List.append_nil];have:G.set j (v,i.size,vs)=G:=(by refine List.ext_getElem? fun n=>?_;grind);grind
  . have af : Xb (d+m) d=false:=by
     cases O:Xb (d+m) d with
     |false=>rfl|true=>exact absurd (Nat.le_of_ble_eq_true O) (by omega)
    have C:d+m<=vs.length+new.length:=(by rw [<-B,<-hm];have f:=Xv d z;have Q:=Xv m z;omega);have N:(Xb ((d+m)*(i.bytes+1)) 70368744177664&&Xt 0 i.bytes)=true:=(by rw [Xa (Xm (Nat.mul_le_mul_right _ C) P)];simp_all);have ai:Xd zs.length i.size=true:=(by simp_all);have r:ic E h e i a d d m new=pX h e i.size a d m new:=(by unfold ic;grind);rw [r];rcases ha with⟨rfl,rfl⟩|⟨b,rfl,D⟩
    . have R:vs=[]:=(by grind);subst R;refine⟨h.new (.cells (Tr.ofList new) new.length e 1),.slice (some ⟨h.n,0,some i.size⟩) m m,rfl,?_⟩;have T:=S.call (Gr.new S.ok (.cells (Tr.ofList new) new.length e 1));have w:h.n∉keys L G:=fun z=>(by have:=S.key_lt z;omega);refine⟨T.fr,T.own,fun p o=>?_,sg S.apart J (b:=h.n) rfl w⟩;rcases oD o with rfl|⟨j',_,o⟩
      . exact⟨.inr ⟨h.n,m,rfl,hm,qR S.ok new e 1⟩,fun b K=>by cases K;exact .inl S.fr.n⟩
      . exact T.gown p (zO o)
    . obtain ⟨F,el,s,H,ak⟩:=D;have U:lg F vs.length 0 (d*i.size) new=some (F.pushAll vs.length new,vs.length+new.length):=(by grind[lg,Xl]);refine⟨(h.put b .dead).new (.cells (F.pushAll vs.length new) (vs.length+new.length) e 1),.slice (some ⟨h.n,0,some i.size⟩) (d+m) (d+m),?_,?_⟩
      . unfold pX;simp only [s,U,hf,Xl];rfl
      . have I:eH (v,i.size,vs)=some b:=(by rw [hv];rfl);have al:=iz S.ok s;have y:=(S.fr.put (A b I) .dead);have V: ∀c∈L.map Prod.fst,c≠b:=fun c W e=>(by have f:=S.apart;grind[keys,List.nodup_append,zO]);have l: ∀c,c<h.n->c≠b->((h.put b .dead).new (.cells (F.pushAll vs.length new) (vs.length+new.length) e 1)).get c=h.get c:=fun c W X=>(by rw [Hp.get_new _ _ y.ok,if_neg (by show c≠h.n;omega)];exact dH (Ne.symm X));have w:h.n∉keys L G:=fun z=>(by have:=S.key_lt z;omega);refine⟨y.new _,fun p o=>?_,fun p o=>?_,sg S.apart J (b:=h.n) rfl w⟩
        . have f:=S.own p o;exact⟨f.1,f.2.of_get (l _ (f.2.lt S.ok) (V _ (Xx o)))⟩
        . rcases oD o with rfl|⟨j',Y,o⟩
          . refine⟨.inr ⟨h.n,d+m,rfl,?_,?_⟩,fun b K=>by cases K;exact .inl S.fr.n⟩
            . grind
            . refine⟨F.pushAll vs.length new,e,?_,?_,fun n=>?_⟩
              . rw [Hp.get_new _ _ y.ok];rw [if_pos (show h.n=(h.put b .dead).n from rfl),Xp]
              . rw [Xp];exact Tr.sized_pushAll _ H
              grind[Tr.get_pushAll]
          . have f:=S.gown p (zO o);refine⟨f.1.of_get fun c W=>l c (f.1.lt S.ok W) fun e=>Y ?_,f.2⟩;subst e
            -- two lists with ax Z
            have Q:=S.apart;unfold keys at Q;have h3:=(List.nodup_append.1 Q).2.1;have ay: ∀(G:List GL) (a c:Nat) (p q:GL),(G.filterMap eH).Nodup->G[a]? =some p->G[c]? =some q-> ∀x,eH p=some x->eH q=some x->a=c:=by
             intro G
             induction G with
             |nil=>grind| cons g G ih=>grind
            grind
 unfold dM;simp only [O];unfold lE;simp only [hu,hi];rcases hg with⟨k1,k2⟩|⟨b,n,k1,k2,k3⟩
 . grind
 simp_all
end
end Go.Ab

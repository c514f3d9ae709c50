/- A deterministic evaluator of the model's code, and that the model follows it (part 5). -/
import Derived.Test.YtdcndollikinnaaGreatDoorAbD
import Derived.ChangeSame
import Derived.RowKit3
import Derived.JoinedOf
import Derived.KernelRfl
import Derived.WalkKit
import Derived.ProofKit
import Derived.OpenShut
import Derived.Carry
open Iff renaming rfl->zM
open List renaming mem_of_getElem?->zO,map_congr_left->Xg,replicate->Xh,getElem?_eq_some_iff->Xi,mem_cons_self->Xo,length_append->Xp,getElem?_map->Xq,drop_eq_getElem_cons->Xr,getElem?_append_left->Xs,getElem?_replicate->Xu,length_replicate->Xw,mem_map_of_mem->Xx
open Nat renaming ble_eq_true_of_le->Xa,ble->Xb,le_refl->Xc,beq->Xd,eq_of_beq_eq_true->Xe,beq_refl->Xl,le_trans->Xm,lt_or_ge->Xn,blt->Xt,le_mul_of_pos_right->Xv
open Bool renaming and_eq_true->Xf
open Array renaming getElem?_eq_getElem->Xj
open Option renaming map_eq_some_iff->Xk
set_option maxHeartbeats 400000
set_option linter.defProp false
set_option linter.unusedVariables false
set_option linter.unusedSimpArgs false
namespace Go.Ab

def tabF:Nat->Nat->(Nat->Value)->Tr Value
 |0,_,_=>.nil| f+1,n,a=>match n with
   |0=>.nil|k+1=>.node (a 0) (tabF f ((k+1)/2) fun i=>a (2*i+1)) (tabF f (k/2) fun i=>a (2*i+2))
def tab(n:Nat)(ρ:Nat->Value):Tr Value:=tabF n n ρ
theorem get_tabF(f n:Nat)(ρ:Nat->Value)(h:n<=f)(j:Nat):(tabF f n ρ).get j=if j<n then some (ρ j)else none:=by
 induction f generalizing n j ρ with
 |zero=>grind[tabF,Tr.get_nil]| succ f a=>
   cases n with
   |zero=>rfl| succ k=>simp only [tabF];rw [Tr.get_node];grind
theorem lK(n:Nat)(ρ:Nat->Value)(j:Nat):(tab n ρ).get j=if j<n then some (ρ j)else none:=get_tabF n n ρ (Xc _) j
theorem Tr.ext{d:Type}{t t':Tr d}(h: ∀i,t.get i=t'.get i):t=t':=by
 induction t generalizing t' with
 | nil=>
   cases t' with
   |nil=>rfl|node y l r=>have:=h 0;simp [Tr.get_nil,Tr.get_node]at this
 | node x l r a b=>
   cases t' with
   |nil=>have:=h 0;simp [Tr.get_nil,Tr.get_node]at this| node y e f=>
     have c:=h 0;simp [Tr.get_node]at c;subst c;rw [a (t':=e) (fun i=>by have:=h (2*i+1);simp_all[Tr.get_node,if_pos]),
      b (t':=f) (fun i=>by have:=h (2*i+2);simp only [Tr.get_node]at this;grind)]

def aw(ρ:Nat->Value)(t:Nat)(v:Value):Nat->Value:=fun i=>if i=t then v else ρ i
theorem aD(ρ:Nat->Value)(t:Nat)(v:Value)(i:Nat):aw ρ t v i=if i=t then v else ρ i:=rfl
theorem tab_set(n:Nat)(ρ:Nat->Value)(t:Nat)(v:Value):(tab n ρ).set t v=tab n (aw ρ t v):=by
 apply Tr.ext;intro i;rw [Tr.get_set,lK,lK];by_cases a:i<n
 . by_cases e:t=i
   . subst e;simp [a,aw]
   . simp [a,e,aw,Ne.symm e]
 . simp [a]
def dh:List Value->Nat->Value
 | [],_=>.tuple #[]| v::l,i=>match i with
   |0=>v|i+1=>dh l i
theorem argR_eq(l:List Value)(i:Nat):dh l i=(l[i]?).getD (.tuple #[]):=by
 induction l generalizing i with
 |nil=>rfl| cons v l a=>cases i with
   |zero=>rfl|succ i=>simp [dh,a]
theorem args_tab{n:Nat}{args:List Value}(h:args.length<=n):(Tr.blank (.tuple #[]) n n:Tr Value).setAll 0 args=tab n (dh args):=by apply Tr.ext;intro i;rw [Tr.get_setAll _ 0 args n (Tr.sized_blank _ _ _ (Xc _)) (by omega),lK,Tr.get_blank _ _ _ (Xc _),argR_eq];grind

def LL(n:Nat)(ρ:Nat->Value)(d:List Deferred)(a:Option (Value×Bool)):Loc:=⟨tab n ρ,d,a⟩
theorem ca(n:Nat)(ρ:Nat->Value)(d:List Deferred)(a:Option (Value×Bool))(t:Nat)(v:Value):(LL n ρ d a).put (some t) v=LL n (aw ρ t v) d a:=by simp only [LL,Loc.put,tab_set]
theorem ll_put0(l:Loc)(v:Value):l.put none v=l:=rfl
theorem bA(n:Nat)(ρ:Nat->Value)(d:List Deferred)(a:Option (Value×Bool))(t:Nat)(h:t<n):(LL n ρ d a).ev (.tmp t)=ρ t:=by simp only [LL,Loc.ev,lK,if_pos h]
theorem ll_func(l:Loc)(f:Nat):l.ev (.func f)=.func (.func f) #[] #[]:=rfl
theorem ll_regs(n:Nat)(ρ:Nat->Value)(d:List Deferred)(a:Option (Value×Bool)):(LL n ρ d a).regs=tab n ρ:=rfl
def Then(x:Option (Ex×Loc×Hp))(K:Ex->Loc->Hp->Prop):Prop:= ∃e l h,x=some (e,l,h)/\K e l h
theorem iK{e:Ex}{l:Loc}{h:Hp}{K:Ex->Loc->Hp->Prop}:Then (some (e,l,h)) K↔K e l h:=by
 constructor
 . intro⟨_,_,_,h1,a⟩;grind
 . intro a;exact⟨_,_,_,rfl,a⟩

abbrev fC:=Ex->Loc->Hp->Prop
inductive Fr where
 |code (c:Code)
 |blk (id:Nat)
 |ops (all os:List Oper)
 |opsD (all:List Oper) (q:Nat) (ps:List (Nat×Nat)) (os:List Oper) (i:Nat) (tr:List (Nat×Tch))
 |kill (t:Tmp)
section
variable(E:Env)(R:Rec)(cx:Cx)(Q:fC)
def Run:List Fr->Ex->Loc->Hp->Prop
 | [],e,l,h=>Q e l h| .code c::k,.normal,l,h=> ∃g d f,aI E R cx c l h=some (g,d,f)/\Run k g d f| .ops a m::k,.normal,l,h=> ∃g d f,iB E R cx a m l h=some (g,d,f)/\Run k g d f| .opsD a q n m i o::k,.normal,l,h=> ∃d f j,bI E R a q m i l h o=some (d,f,j)/\cG j n=true/\Run k .normal d f| .kill t::k,.normal,l,h=> ∃b p c,l.ev (.tmp t)=.map (some b)/\h.get b=some (.map p c)/\Run k .normal l (h.put b .dead)| .blk _::k,.normal,l,h=>Run k .normal l h| .blk id::k,.exit i,l,h=>if i=id then Run k .normal l h else Run k (.exit i) l h
 |_::k,.exit i,l,h=>Run k (.exit i) l h|_::k,.ret,l,h=>Run k .ret l h|_::k,.pan v,l,h=>Run k (.pan v) l h
end
section
variable{E:Env}{R:Rec}{cx:Cx}{Q:fC}{k:List Fr}{l:Loc}{h:Hp}

theorem run_nil{e:Ex}:Run E R cx Q [] e l h↔Q e l h:=zM
theorem run_skip:Run E R cx Q (.code .skip::k) .normal l h↔Run E R cx Q k .normal l h:=by simp only [Run,aI];exact iK
theorem run_seq{a b:Code}:Run E R cx Q (.code (.seq a b)::k) .normal l h↔Run E R cx Q (.code a:: .code b::k) .normal l h:=by
 simp only [Run,aI];constructor
 . intro⟨e',l',h',c,h2⟩;cases e:aI E R cx a l h with
   |none=>grind| some q=>
     obtain⟨x,f,d⟩:=q;rw [e]at c;refine⟨x,f,d,rfl,?_⟩;cases x with
     |normal=>exact⟨e',l',h',c,h2⟩|exit i=>cases c;exact h2
     |ret=>cases c;exact h2
     |pan v=>cases c;exact h2
 . intro⟨x,f,d,e,h2⟩;rw [e];cases x with
   |normal=>exact h2|exit i=>exact⟨_,_,_,rfl,h2⟩|ret=>exact⟨_,_,_,rfl,h2⟩|pan v=>exact⟨_,_,_,rfl,h2⟩
theorem run_block {id:Nat} {b:Code}:Run E R cx Q (.code (.block id b)::k) .normal l h↔Run E R cx Q (.code b:: .blk id::k) .normal l h:=by
 simp only [Run,aI];constructor
 . intro ⟨e',l',h',a,h2⟩;cases e:aI E R cx b l h with
   |none=>grind| some q=>
     obtain⟨x,f,c⟩:=q;rw [e]at a;refine⟨x,f,c,rfl,?_⟩;cases x with
     |normal=>cases a;exact h2
     | exit i=>
       simp only []at a;cases d:Xd i id with
       |true=>simp_all[Xe,Run,if_true]| false=>
         rw [d]at a;cases a;simp only [Run];rw [if_neg (by grind[Xl])];exact h2
     |ret=>cases a;exact h2
     |pan v=>cases a;exact h2
 . intro⟨x,f,c,e,h2⟩;rw [e];cases x with
   |normal=>exact⟨_,_,_,rfl,h2⟩| exit i=>
     simp only [Run]at h2;simp only [];by_cases d:i=id
     . subst d;rw [if_pos rfl]at h2;rw [Xl];grind
     . rw [if_neg d]at h2;have:Xd i id=false:=(by grind[Xd,id,absurd,Xe]);grind
   |ret=>exact⟨_,_,_,rfl,h2⟩|pan v=>exact⟨_,_,_,rfl,h2⟩
theorem run_scope{b:Code}:Run E R cx Q (.code (.scope b)::k) .normal l h↔Run E R cx Q (.code b::k) .normal l h:=zM
theorem run_blk{id:Nat}:Run E R cx Q (.blk id::k) .normal l h↔Run E R cx Q k .normal l h:=zM
theorem run_exit{id:Nat}:Run E R cx Q (.code (.exit id)::k) .normal l h↔Run E R cx Q k (.exit id) l h:=by simp only [Run,aI];exact iK
theorem run_ret:Run E R cx Q (.code .ret::k) .normal l h↔Run E R cx Q k .ret l h:=by simp only [Run,aI];exact iK
theorem AO{id i:Nat}:Run E R cx Q (.blk id::k) (.exit i) l h↔if i=id then Run E R cx Q k .normal l h else Run E R cx Q k (.exit i) l h:=zM
theorem yR{c:Code}{i:Nat}:Run E R cx Q (.code c::k) (.exit i) l h↔Run E R cx Q k (.exit i) l h:=zM
theorem AL{a os:List Oper}{i:Nat}:Run E R cx Q (.ops a os::k) (.exit i) l h↔Run E R cx Q k (.exit i) l h:=zM
theorem CV{f:Fr}:Run E R cx Q (f::k) .ret l h↔Run E R cx Q k .ret l h:=by cases f<;>exact zM
theorem BL{f:Fr}{v:Value}:Run E R cx Q (f::k) (.pan v) l h↔Run E R cx Q k (.pan v) l h:=by cases f<;>exact zM
theorem run_cond{c:Operand}{a b:Code}:Run E R cx Q (.code (.cond c a b)::k) .normal l h↔ ∃t,l.ev c=.bool t/\if t=true then Run E R cx Q (.code a::k) .normal l h else Run E R cx Q (.code b::k) .normal l h:=by simp only [Run,aI];grind
theorem Cw{id:Nat}{ops:Array Oper}:Run E R cx Q (.code (.region id ops false)::k) .normal l h↔Run E R cx Q (.ops ops.toList ops.toList::k) .normal l h:=by rfl
theorem A4{a:List Oper}:Run E R cx Q (.ops a []::k) .normal l h↔Run E R cx Q k .normal l h:=by simp only [Run,iB];exact iK
theorem A1{a os:List Oper}{o:Oper}:Run E R cx Q (.ops a (o::os)::k) .normal l h↔ ∃b,cC a l.regs o=some b/\
 (if b=true then Then (eh E R cx o l h) fun e l' g=>Run E R cx Q (.ops a os::k) e l' g else Run E R cx Q (.ops a os::k) .normal (l.put o.dst (.tuple #[])) h):=by
 simp only [Run,iB];constructor
 . intro ⟨e',l',g,d,c⟩;cases j:cC a l.regs o with
   |none=>grind| some b=>
     rw [j]at d;refine⟨b,rfl,?_⟩;cases b with
     |false=>grind| true=>
       rw [if_pos rfl];simp only []at d;cases m:eh E R cx o l h with
       |none=>grind| some q=>
         obtain⟨x,n,f⟩:=q;rw [m]at d;refine⟨x,n,f,rfl,?_⟩;cases x with
         |normal=>exact⟨e',l',g,d,c⟩|exit i=>cases d;exact c
         |ret=>cases d;exact c
         |pan v=>cases d;exact c
 . intro⟨b,j,c⟩;rw [j];cases b with
   |false=>grind| true=>
     rw [if_pos rfl]at c;obtain⟨x,n,f,m,c⟩:=c;simp only [m];cases x with
     |normal=>exact c|exit i=>exact⟨_,_,_,rfl,c⟩|ret=>exact⟨_,_,_,rfl,c⟩|pan v=>exact⟨_,_,_,rfl,c⟩

theorem run_draw{id:Nat}{ops:Array Oper}{q:Nat}{ps:List (Nat×Nat)}{os:List Oper}(a:E.cut cx.fn=false)(b:bU ops.toList=os)(c:jV E os=some (q,ps)):Run E R cx Q (.code (.region id ops true)::k) .normal l h↔Run E R cx Q (.opsD os q ps os 0 []::k) .normal l h:=by simp only [Run,aI,cond_true,a,cond_false,b,c];grind
theorem AG{a:List Oper}{q i:Nat}{ps:List (Nat×Nat)}{b:List (Nat×Tch)}:Run E R cx Q (.opsD a q ps [] i b::k) .normal l h↔cG b ps=true/\Run E R cx Q k .normal l h:=by simp only [Run,bI];grind
theorem yN{a os:List Oper}{o:Oper}{q i:Nat}{ps:List (Nat×Nat)}{c:List (Nat×Tch)}:Run E R cx Q (.opsD a q ps (o::os) i c::k) .normal l h↔ ∃b,cC a l.regs o=some b/\
 (if b=true then∃v d,cU E R (l.evD (tmpsOf o.op.operands.toList)) (eQ E q i o.op) o h=some (v,d)/\
     Run E R cx Q (.opsD a q ps os (i+1) (g9 i c (cQ (l.evD (tmpsOf o.op.operands.toList)) (eQ E q i o.op) o.op h d))::k) .normal (l.put o.dst v) d
   else Run E R cx Q (.opsD a q ps os (i+1) c::k) .normal (l.put o.dst (.tuple #[])) h):=by
 simp only [Run,bI];grind
end
end Go.Ab

namespace Go.Ab

noncomputable def envOf(a:Tr Func)(b:Tr TypeInfo)(c:List Nat):Env:={fn:=fun f=>a.get f,ty:=fun t=>b.get t,eqok:=fun t=>nK t c}

theorem zI{P:Program}{f:FuncId}{b:Func}(hf:P.funcs[f]? =some b)(e:b.body.isSome=true)(c:(b.name== "runtime.NumGoroutine")=false)(args:Array Value)(w:World):
 (callFunc f args).run P w=.ok (.enter f args) w:=by
 have a:b.body.isNone=false:=by cases h:b.body<;>simp_all
 unfold callFunc;have d:program.run P w=.ok P w:=rfl;simp only [Sem.run_bind,d,Result.andThen_ok,hf,c,a,Bool.false_eq_true,if_false,Sem.run_pure]

theorem eok_of{P:Program}{fns:Tr Func}{tys:Tr TypeInfo}{eqs:List Nat}(h1:fns=Tr.ofList P.funcs.toList)(h2:tys=Tr.ofList P.types.toList)
 (h3:(P.funcs.toList.all fun fn=>fn.body.isNone|| !(fn.name== "runtime.NumGoroutine"))=true) (h4:(eqs.all fun t=>!P.stoodInHeld t&& !P.eqGuardType P.depth t)=true)
 (h5:P.follows .mixedOrders=true):EOk (envOf fns tys eqs) P where
 fn:=by intro f fn h;have h':fns.get f=some fn:=h;rw [h1,Tr.get_ofList]at h';simpa using h'
 call:=by
  intro f fn args w h hb;have h':fns.get f=some fn:=h;rw [h1,Tr.get_ofList]at h';have hm:=zO h';have:=(List.all_eq_true.1 h3) fn hm;refine zI (by simpa using h') hb ?_ args w;cases hn:(fn.name== "runtime.NumGoroutine")with
  |false=>rfl|true=>rw [hn]at this;cases hx:fn.body<;>simp_all
 ty:=by
  intro t i h;have h':tys.get t=some i:=h;rw [h2,Tr.get_ofList]at h';show P.toTables.info? t=some i;have hk:P.types[t]? =some i:=by simpa using h'
  unfold Tables.info?;rw [if_pos (Array.getElem?_eq_some_iff.1 hk).1];exact hk
 eq:=by intro t h;have hm:t∈eqs:=(nL t eqs).1 h;have:=(List.all_eq_true.1 h4) t hm;simp only [Xf,Bool.not_eq_true']at this;exact this
 mixed:=h5
 orc:=by intro g args v h;cases h
noncomputable def qS(E:Env)(o:Nat->List Value->Option Value):Env:={E with orc:=o}
noncomputable def withCut(E:Env)(c:Nat->Bool):Env:={E with cut:=c}
theorem eok_cut{E:Env}{P:Program}(ok:EOk E P)(c:Nat->Bool):EOk (withCut E c) P where
 fn:=ok.fn
 call:=ok.call
 ty:=ok.ty
 eq:=ok.eq
 mixed:=ok.mixed
 orc:=ok.orc
theorem eok_with{E:Env}{P:Program}(ok:EOk E P){o:Nat->List Value->Option Value}(ho: ∀g args v,o g args=some v->(∃fn,E.fn g=some fn/\fn.body.isSome=true)/\OrcAt P g args v):EOk (qS E o) P where
 fn:=ok.fn
 call:=ok.call
 ty:=ok.ty
 eq:=ok.eq
 mixed:=ok.mixed
 orc:=ho
end Go.Ab
namespace Go.Ab
open Go.ChangeShapes Go.WideShapes
variable{H:Type}{enc:TypeId×Value->H}{P:Program}
end Go.Ab

namespace Go.Ab

def fZ(E:Env)(f:FuncId)(args:List Value)(c:Option (Value×Bool))(h:Hp)(Q:Out->Option (Value×Bool)->Hp->Prop):Prop:= ∃o a b,(lim E).call f args c h=some (o,a,b)/\Q o a b
def Ret(E:Env)(f:FuncId)(args:List Value)(h:Hp)(Q:Value->Hp->Prop):Prop:= ∃v a,(lim E).call f args none h=some (.ret v,none,a)/\Q v a
theorem Ret.mono{E:Env}{f:FuncId}{args:List Value}{h:Hp}{Q d:Value->Hp->Prop}(k: ∀v c,Q v c->d v c)(r:Ret E f args h Q):Ret E f args h d:=by obtain⟨v,c,a,b⟩:=r;exact⟨v,c,a,k v c b⟩
def kX(E:Env)(b:Nat)(args:List Value)(h:Hp)(Q:Out->Hp->Prop):Prop:= ∃o a,jr E (lim E) b args h=some (o,a)/\Q o a

section
variable(E:Env)(cx:Cx)(o:Oper)(l:Loc)(K:Ex->Loc->Hp->Prop)
def fJ:Option (dH×Hp)->Prop
 |some (.val v,a)=>K .normal (l.put o.dst v) a|some (.skip,a)=>K .normal (l.put o.dst (.tuple #[])) a| some (.call f c,a)=>fZ E f c none a fun x _ e=>match x with
   | .ret v=>K .normal (l.put o.dst v) e| .pan v=>K (.pan v) l e
 | some (.yield b c,a)=>kX E b c a fun x e=>match x with
   | .ret v=>K .normal (l.put o.dst v) e| .pan v=>K (.pan v) l e
 |some (.panic v,a)=>K (.pan v) l a| some (.recov,a)=>cx.round=none/\match l.rc with
   |some (v,false)=>K .normal (({l with rc:=some (v,true)}:Loc).put o.dst v) a
   |_=>K .normal (l.put o.dst .nilIface) a
 |some (.defer d,a)=>cx.round=none/\K .normal (({l with dfs:=d::l.dfs}:Loc).put o.dst (.tuple #[])) a
 |none=>False
end
section
variable{E:Env}{cx:Cx}{o:Oper}{l:Loc}{K:Ex->Loc->Hp->Prop}{h:Hp}
theorem then_step:Then (eh E (lim E) cx o l h) K↔fJ E cx o l K (aop E l.ev h o.op):=by
 unfold eh;cases p:aop E l.ev h o.op with
 | none=>
   simp only [fJ,di,nY];exact⟨fun⟨_,_,_,i,_⟩=>(by cases i),fun h=>h.elim⟩
 | some q=>
   obtain⟨m,i⟩:=q;cases m with
   |val v=>exact iK|skip=>exact iK|panic v=>exact iK| call f g=>
     simp only [fJ,di,fZ];constructor
     . intro⟨e,l',h',a,b⟩;cases j:(lim E).call f g none i with
       |none=>rw [j]at a;cases a
       | some q=>
         obtain⟨x,n,k⟩:=q;rw [j]at a;cases x<;>(cases a;grind)
     . intro⟨x,n,k,a,b⟩;rw [a];cases x<;>exact⟨_,_,_,rfl,b⟩
   | yield b g=>
     simp only [fJ,di,kX];constructor
     . intro⟨e,l',h',a,c⟩;cases j:jr E (lim E) b g i with
       |none=>rw [j]at a;cases a
       | some q=>
         obtain⟨x,k⟩:=q;rw [j]at a;cases x<;>(cases a;grind)
     . intro⟨x,k,a,c⟩;rw [a];cases x<;>exact⟨_,_,_,rfl,c⟩
   | recov=>
     simp only [fJ];cases cx.round with
     |some r=>simp only [];exact⟨fun⟨_,_,_,i,_⟩=>(by cases i),fun h=>(by cases h.1)⟩
     | none=>simp only [true_and];grind[iK]
   | defer d=>
     simp only [fJ];cases cx.round with
     |some r=>simp only [];exact⟨fun⟨_,_,_,i,_⟩=>(by cases i),fun h=>(by cases h.1)⟩
     |none=>simp only [true_and];exact iK
theorem yP{v:Value}:fJ E cx o l K (some (.val v,h))↔K .normal (l.put o.dst v) h:=zM
theorem xB:fJ E cx o l K (some (.skip,h))↔K .normal (l.put o.dst (.tuple #[])) h:=zM
theorem xa{v:Value}:fJ E cx o l K (some (.panic v,h))↔K (.pan v) l h:=zM
theorem step_ret{f:FuncId}{args:List Value}{Q:Value->Hp->Prop}(d:Ret E f args h Q)(e: ∀v c,Q v c->K .normal (l.put o.dst v) c):fJ E cx o l K (some (.call f args,h)):=by obtain⟨v,c,a,b⟩:=d;exact⟨.ret v,none,c,a,e v c b⟩
end

def pq(E:Env)(rs:List ResultVar)(Q:Out->Option (Value×Bool)->Hp->Prop):fC
 | .exit _,_,_=>False| .pan v,l,h=> ∃m a,cB (lim E) l.dfs (some v) h=some (m,a)/\match m with
   |some v=>Q (.pan v) l.rc a|none=> ∃b,bH E l.regs a rs=some b/\Q (.ret (ab b)) l.rc a
 | .normal,l,h=> ∃a,cB (lim E) l.dfs none h=some (none,a)/\ ∃b,bH E l.regs a rs=some b/\Q (.ret (ab b)) l.rc a| .ret,l,h=> ∃a,cB (lim E) l.dfs none h=some (none,a)/\ ∃b,bH E l.regs a rs=some b/\Q (.ret (ab b)) l.rc a

theorem enter{E:Env}{f:FuncId}{k:Func}{body:Code}{n:Nat}{rs:List ResultVar}{args:List Value}{o:Option (Value×Bool)}{h:Hp}{Q:Out->Option (Value×Bool)->Hp->Prop}
 (r:E.orc f args=none) (hf:E.fn f=some k) (s:k.body=some body) (t:k.ntmps=n) (p:k.results.toList=rs) (hle:args.length<=n)
 (u:Run E (lim E) ⟨f,n,none⟩ (pq E rs Q) [.code body] .normal (LL n (dh args) [] o) h):fZ E f args o h Q:=by
 obtain⟨e,l,w,x,j⟩:=u;simp only [Run]at j;unfold fZ;rw [call_eq];unfold iO;rw [r];simp only [];unfold j7;rw [hf];simp only [];rw [s];simp only [];rw [t,Xa hle];simp only [cond_true];rw [args_tab hle];have g:(lim E).code ⟨f,n,none⟩ body ⟨tab n (dh args),[],o⟩ h=some (e,l,w):=by rw [xC];exact x
 rw [g,p];cases e with
 |exit i=>exact j.elim| pan v=>
   obtain⟨m,q,a,b⟩:=j;grind
 |normal=>obtain⟨q,a,y,c,d⟩:=j;grind
 |ret=>obtain⟨q,a,y,c,d⟩:=j;grind
def RetQ(Q:Value->Hp->Prop):Out->Option (Value×Bool)->Hp->Prop
 | .ret v,none,h=>Q v h|_,_,_=>False
theorem ret_of{E:Env}{f:FuncId}{args:List Value}{h:Hp}{Q:Value->Hp->Prop}(hq:fZ E f args none h (RetQ Q)):Ret E f args h Q:=by
 obtain⟨o,c,d,a,b⟩:=hq;cases o with
 |pan v=>exact b.elim| ret v=>cases c with
   |none=>exact⟨v,d,a,b⟩|some y=>exact b.elim
theorem aa{E:Env}{f:FuncId}{a:Func}{body:Code}{n:Nat}{rs:List ResultVar}{args:List Value}{h:Hp}{Q:Value->Hp->Prop}
 (c:E.orc f args=none) (hf:E.fn f=some a) (d:a.body=some body) (e:a.ntmps=n) (b:a.results.toList=rs) (hle:args.length<=n)
 (g:Run E (lim E) ⟨f,n,none⟩ (pq E rs (RetQ Q)) [.code body] .normal (LL n (dh args) [] none) h):Ret E f args h Q:=ret_of (enter c hf d e b hle g)
theorem ret_orc{E:Env}{f:FuncId}{args:List Value}{h:Hp}{v:Value}{Q:Value->Hp->Prop}(a:E.orc f args=some v)(hq:Q v h):Ret E f args h Q:=by refine⟨v,h,?_,hq⟩;rw [call_eq];unfold iO;rw [a]
section
variable{E:Env}{rs:List ResultVar}{Q:Value->Hp->Prop}{n:Nat}{ρ:Nat->Value}{h:Hp}
theorem ym:pq E rs (RetQ Q) .ret (LL n ρ [] none) h↔ ∃vs,bH E (tab n ρ) h rs=some vs/\Q (ab vs) h:=by
 simp only [pq,LL,cB];constructor
 . intro⟨h',a,b⟩;cases a;exact b
 . intro b;exact⟨h,rfl,b⟩
theorem zG:pq E rs (RetQ Q) .normal (LL n ρ [] none) h↔ ∃vs,bH E (tab n ρ) h rs=some vs/\Q (ab vs) h:=ym
theorem cK{P:List Value->Prop}:(∃vs,bH E (tab n ρ) h []=some vs/\P vs)↔P []:=by simp only [bH];grind
theorem fQ{t:Tmp}{P:List Value->Prop}(a:t<n):(∃vs,bH E (tab n ρ) h (.tmp t::rs)=some vs/\P vs)↔ ∃vs,bH E (tab n ρ) h rs=some vs/\P (ρ t::vs):=by simp only [bH,lK,if_pos a];grind
theorem bZ{t:Tmp}{ty:TypeId}{v:Value}{P:List Value->Prop}(a:t<n)(b:fh E h ty (ρ t)=some v):(∃vs,bH E (tab n ρ) h (.cell t ty::rs)=some vs/\P vs)↔ ∃vs,bH E (tab n ρ) h rs=some vs/\P (v::vs):=by simp only [bH,lK,if_pos a,b];grind
end
end Go.Ab

namespace Go.Ab

structure Gr(h h':Hp):Prop where
 ok0:h.t.Sized h.n
 ok:h'.t.Sized h'.n
 n:h.n<=h'.n
 get: ∀b,b<h.n->h'.get b=h.get b
 lo: ∀x,x<=h.n->x<=h.lo->x<=h'.lo
theorem Gr.refl{h:Hp}(a:h.t.Sized h.n):Gr h h:=⟨a,a,Xc _,fun _ _=>rfl,fun _ _ h=>h⟩
theorem Gr.trans{a b c:Hp}(x:Gr a b)(y:Gr b c):Gr a c:=
 ⟨x.ok0,y.ok,Xm x.n y.n,fun i d=>(y.get i (Nat.lt_of_lt_of_le d x.n)).trans (x.get i d),fun i e f=>y.lo i (Xm e x.n) (x.lo i e f)⟩
theorem new_ok{h:Hp}(a:h.t.Sized h.n)(x:Blk):(h.new x).t.Sized (h.new x).n:=Tr.sized_push x a
theorem put_ok{h:Hp}(a:h.t.Sized h.n)(b:Nat)(x:Blk):(h.put b x).t.Sized (h.put b x).n:=Tr.sized_set b x a
theorem Gr.new{h:Hp}(a:h.t.Sized h.n)(x:Blk):Gr h (h.new x):=
 ⟨a,new_ok a x,Nat.le_succ _,fun b c=>by rw [h.get_new x a,if_neg (by omega)],fun _ _ h=>h⟩
theorem Gr.put{a h:Hp}(g:Gr a h){b:Nat}(j:a.n<=b)(x:Blk):Gr a (h.put b x):=by
 refine⟨g.ok0,put_ok g.ok b x,g.n,fun i c=>?_,fun i d f=>?_⟩
 . rw [Hp.get_put,if_neg (fun e=>by omega)];exact g.get i c
 . have:=g.lo i d f;show i<=dA b h.lo;grind[dA,Xb]
theorem hU{h:Hp}(a:h.t.Sized h.n){b:Nat}{x:Blk}(e:h.get b=some x):b<h.n:=(a b).1 (by show(h.get b).isSome=true;rw [e];rfl)
theorem Gr.at{h a:Hp}(g:Gr h a){b:Nat}{x:Blk}(e:h.get b=some x):a.get b=some x:=by rw [g.get b (hU g.ok0 e)];exact e
theorem bC{h:Hp}(a:h.t.Sized h.n){b o n:Nat}{l:List Value}(e:h.load b o n=some l):b<h.n:=by
 unfold Hp.load at e
 split at e
 next c=>exact hU a c
 next=>cases e
theorem Gr.load{h a:Hp}(g:Gr h a){b o n:Nat}{l:List Value}(e:h.load b o n=some l):a.load b o n=some l:=by have:=g.get b (bC g.ok0 e);grind[Hp.load]
theorem Gr.hlo{h a:Hp}(g:Gr {h with lo:=h.n} a):Xb h.n a.lo=true:=Xa (g.lo h.n (Xc _) (Xc _))

def Row(h:Hp)(b:Nat)(l:List Value)(md:Nat):Prop:= ∃t el,h.get b=some (.cells t l.length el md)/\t.Sized l.length/\ ∀i:Nat,t.get i=l[i]?
theorem Row.gr{h d:Hp}(g:Gr h d){b:Nat}{l:List Value}{md:Nat}(r:Row h b l md):Row d b l md:=by obtain⟨t,el,a,b,c⟩:=r;exact⟨t,el,g.at a,b,c⟩
theorem Row.lt{h:Hp}(c:h.t.Sized h.n){b:Nat}{l:List Value}{md:Nat}(r:Row h b l md):b<h.n:=by obtain⟨t,el,a,_,_⟩:=r;exact hU c a
theorem AN{a:Type}{t:Tr a}{l:List a}(b: ∀i:Nat,t.get i=l[i]?): ∀(n o:Nat),o+n<=l.length->t.slice o n=some ((l.drop o).take n)
 |0,o,_=>by simp [Tr.slice]| n+1,o,h=>by simp only [Tr.slice];have:l[o]? =some l[o]:=List.getElem?_eq_getElem (by omega);rw [b o,this,AN b n (o+1) (by omega)];simp only [];congr 1;rw [show List.drop o l=l[o]::List.drop (o+1) l from Xr (by omega)];rfl
theorem Row.load{h:Hp}{b:Nat}{l:List Value}{md:Nat}(r:Row h b l md){o n:Nat}(d:o+n<=l.length):h.load b o n=some ((l.drop o).take n):=by obtain⟨t,el,a,_,c⟩:=r;grind[Hp.load,Xa,AN]
theorem Row.load1{h:Hp}{b:Nat}{l:List Value}{md:Nat}(r:Row h b l md){o:Nat}{v:Value}(a:l[o]? =some v):h.load b o 1=some [v]:=by have hlt:=(List.getElem?_eq_some_iff.1 a).1;rw [r.load (by omega)];grind[Xr,Xi]
theorem pN{h:Hp}(a:h.t.Sized h.n)(l:List Value)(el md:Nat):Row (h.new (.cells (Tr.ofList l) l.length el md)) h.n l md:=
 ⟨Tr.ofList l,el,by rw [h.get_new _ a,if_pos rfl],Tr.sized_ofList l,fun i=>Tr.get_ofList l i⟩
def lay(l:List Value)(o:Nat)(vs:List Value):List Value:=l.take o++vs++l.drop (o+vs.length)
theorem pK{l:List Value}{o:Nat}{vs:List Value}(h:o+vs.length<=l.length):(lay l o vs).length=l.length:=by simp [lay];omega
theorem jO{l:List Value}{o:Nat}{vs:List Value}(h:o+vs.length<=l.length)(i:Nat):(lay l o vs)[i]? =if o<=i/\i<o+vs.length then vs[i-o]? else l[i]? :=by
 unfold lay;by_cases a:i<o
 . grind
 grind
theorem Row.store{h:Hp}(g:h.t.Sized h.n){b:Nat}{l:List Value}{md:Nat}(r:Row h b l md)(f:md≠0){o:Nat}{vs:List Value}(e:o+vs.length<=l.length)(j:vs.all lh=true):
 ∃x,h.store b o vs=some (h.put b x)/\Row (h.put b x) b (lay l o vs) md:=by
 obtain⟨t,el,a,d,c⟩:=r;refine⟨.cells (t.setAll o vs) l.length el md,?_,?_⟩
 . grind[Hp.store,Xd,absurd,Xe,Xa]
 . refine⟨t.setAll o vs,el,?_,?_,fun i=>?_⟩
   . rw [Hp.get_put,if_pos ⟨rfl,by rw [a];rfl⟩,pK e]
   . rw [pK e];exact Tr.sized_setAll o vs d
   grind[Tr.get_setAll,jO]
end Go.Ab

namespace Go.Ab

theorem pop_ext{E:Env}{op:Op}{ρ d:Operand->Value}(e: ∀x∈op.operands.toList,ρ x=d x):pop E ρ op=pop E d op:=by
 cases op
 case build t g=>grind[pop,Xg,Op.operands]
 case makeFunc f a b=>
  cases f<;>(try rfl);grind[pop,Array.map_congr_left,Op.operands]
 case slice t x l h m=>
  simp only [pop];have i:=e x (by simp [Op.operands]);have j:l.map ρ=l.map d:=by cases l with|none=>rfl|some y=>simp [e y (by simp [Op.operands])]
  have k:h.map ρ=h.map d:=by cases h with|none=>rfl|some y=>simp [e y (by simp [Op.operands])]
  have n:m.map ρ=m.map d:=by cases m with|none=>rfl|some y=>simp [e y (by simp [Op.operands])]
  grind
 case call c=>
  have o:c.args.toList.map ρ=c.args.toList.map d:=by grind[Xg,Op.operands,Call.operands]
  grind[pop,invoke,builtin,Xo,Op.operands,Call.operands]
 all_goals (try rfl)
 all_goals first
  |(unfold Op.operands at e;simp at e;simp only [pop];simp [e];done)
  |(simp only [pop];done)
  |(cases ‹Fn› <;>simp only [pop];done)

theorem tR{E:Env}{op:Op}{h:Hp}{ρ a:Operand->Value}(e: ∀x∈op.operands.toList,ρ x=a x):aop E ρ h op=aop E a h op:=by
 have d:=pop_ext (E:=E) e;cases op
 case buildSlice t n j=>grind[aop,Xg,Op.operands]
 case makeMap t r=>cases r<;>simp only [aop,d]
 case call c=>
  have i:c.args.toList.map ρ=c.args.toList.map a:=by grind[Xg,Op.operands,Call.operands]
  have k: ∀x∈c.args.toList,ρ x=a x:=by simp_all
  cases g:c.callee with
  | value f=>grind[hf,Op.operands,Call.operands,aop]|invoke r n=>simp only [aop,g]| builtin b=>
    cases b<;>simp only [aop,g,d]<;>(try rfl)
    all_goals grind
 case defer c=>
  have i:c.args.toList.map ρ=c.args.toList.map a:=by grind[Xg,Op.operands,Call.operands]
  grind[hf,Op.operands,Call.operands,aop,invoke,builtin]
 all_goals first
  |(simp only [aop];done)
  |(simp only [aop,d];done)
  |(unfold Op.operands at e;simp at e;simp only [aop,e];done)
theorem touch_ext{op:Op}{ρ a:Operand->Value}(e: ∀x∈op.operands.toList,ρ x=a x):touch ρ op=touch a op:=by
 cases op
 case call c=>grind[touch,Op.operands,Call.operands]
 all_goals first
  |rfl
  |(unfold Op.operands at e;simp at e;simp only [touch,e];done)
  |(simp only [touch];done)
theorem tJ(l:Loc)(op:Op): ∀x∈op.operands.toList,l.evD (tmpsOf op.operands.toList) x=l.ev x:=by
 intro x a;cases x with
 | tmp t=>grind[Loc.evD,nL,rG]|_=>rfl

def jX(E:Env)(K:Value->Hp->Prop):Option (dH×Hp)->Prop
 |some (.val v,c)=>K v c|some (.skip,c)=>K (.tuple #[]) c| some (.call f a,c)=>fZ E f a none c fun x _ d=>match x with
   | .ret v=>K v d| .pan _=>False
 | some (.yield b a,c)=>kX E b a c fun x d=>match x with
   | .ret v=>K v d| .pan _=>False
 |_=>False
theorem opVal_n{E:Env}{x:Option (dH×Hp)}{K:Value->Hp->Prop}:(∃v e,di E (lim E) x=some (.ret v,e)/\K v e)↔jX E K x:=by
 cases x with
 |none=>exact⟨fun⟨_,_,a,_⟩=>(by cases a),fun h=>h.elim⟩
 | some q=>
   obtain⟨g,i⟩:=q;cases g with
   |val v=>exact⟨fun⟨_,_,a,b⟩=>(by cases a;exact b),fun h=>⟨_,_,rfl,h⟩⟩
   |skip=>exact⟨fun⟨_,_,a,b⟩=>(by cases a;exact b),fun h=>⟨_,_,rfl,h⟩⟩
   |panic v=>exact⟨fun⟨_,_,a,_⟩=>(by cases a),fun h=>h.elim⟩
   |recov=>exact⟨fun⟨_,_,a,_⟩=>(by cases a),fun h=>h.elim⟩
   |defer d=>exact⟨fun⟨_,_,a,_⟩=>(by cases a),fun h=>h.elim⟩
   | call f c=>simp only [jX,di,fZ];grind| yield b c=>grind[jX,di,kX]
theorem stepD_iff{E:Env}{l:Loc}{a:Bool}{o:Oper}{h:Hp}{K:Value->Hp->Prop}:(∃v b,cU E (lim E) (l.evD (tmpsOf o.op.operands.toList)) a o h=some (v,b)/\K v b)↔
 (if a=true then jX E (fun v b=>Xb h.n b.lo=true/\K v {b with lo:=h.lo}) (aop E l.ev {h with lo:=h.n} o.op)else jX E K (aop E l.ev h o.op)):=by
 have e:=tJ l o.op;unfold cU;cases a with
 | false=>rw [if_neg (by simp)];simp only [cond_false];rw [tR e,<-opVal_n];grind| true=>rw [if_pos rfl];simp only [cond_true];rw [tR e,<-opVal_n];grind
theorem BU{op:Op}{ρ a:Operand->Value}{b:Bool}{h c:Hp}(e: ∀x∈op.operands.toList,ρ x=a x):cQ ρ b op h c=cQ a b op h c:=by unfold cQ jG;rw [touch_ext e]
theorem run_opsD{E:Env}{cx:Cx}{Q:fC}{k:List Fr}{l:Loc}{h:Hp}{a os:List Oper}{o:Oper}{q i:Nat}{ps:List (Nat×Nat)}{d:List (Nat×Tch)}:Run E (lim E) cx Q (.opsD a q ps (o::os) i d::k) .normal l h↔ ∃b,cC a l.regs o=some b/\
 (if b =true then(if eQ E q i o.op=true then
       jX E (fun v c=>Xb h.n c.lo=true/\Run E (lim E) cx Q (.opsD a q ps os (i+1) (g9 i d (cQ l.ev true o.op h h))::k) .normal (l.put o.dst v) {c with lo:=h.lo}) (aop E l.ev {h with lo:=h.n} o.op)
     else jX E (fun v c=>Run E (lim E) cx Q (.opsD a q ps os (i+1) (g9 i d (cQ l.ev false o.op h c))::k) .normal (l.put o.dst v) c) (aop E l.ev h o.op))
   else Run E (lim E) cx Q (.opsD a q ps os (i+1) d::k) .normal (l.put o.dst (.tuple #[])) h):=by
 rw [yN];simp only [BU (tJ l o.op),stepD_iff];cases eQ E q i o.op with
 | true=>rfl|false=>exact zM
theorem yj{E:Env}{K:Value->Hp->Prop}{f:FuncId}{args:List Value}{h:Hp}{Q:Value->Hp->Prop}(d:Ret E f args h Q)(e: ∀v c,Q v c->K v c):jX E K (some (.call f args,h)):=by obtain⟨v,c,a,b⟩:=d;exact⟨.ret v,none,c,a,e v c b⟩
end Go.Ab

namespace Go.Ab
noncomputable section
abbrev Opt:=Option (Ex×Loc×Hp)

def getK{a:Type}(t:Tr a):Nat->Option a:=Tr.rec (motive:=fun _=>Nat->Option a) (fun _=>none)
 (fun x _ _ b c i=>Nat.rec (some x) (fun n _=>Bool.rec (c (n/2)) (b (n/2)) (Xd (n%2) 0)) i) t
def setK{a:Type}(t:Tr a):Nat->a->Tr a:=Tr.rec (motive:=fun _=>Nat->a->Tr a) (fun _ _=>.nil)
 (fun y l r b c i x=>Nat.rec (.node x l r) (fun n _=>Bool.rec (.node y l (c (n/2) x)) (.node y (b (n/2) x) r) (Xd (n%2) 0)) i) t
def gJ(l:Loc)(d:Option Tmp)(v:Value):Loc:=Option.rec l (fun t=>Loc.mk (setK l.regs t v) l.dfs l.rc) d
def evK(l:Loc)(x:Operand):Value:=Operand.rec (motive:=fun _=>Loc->Value) (fun t l=>Option.rec (.tuple #[]) (fun v=>v) (getK l.regs t)) (fun v _=>Bool.rec poison v (c7 v))
 (fun g _=>Bool.rec poison (.pointer (some ⟨g,0,none⟩)) (Xt g 16)) (fun f _=>.func (.func f) #[] #[]) x l
def exK(e:Ex):(Loc->Hp->Opt)->(Ex->Loc->Hp->Opt)->Loc->Hp->Opt:=Ex.rec (motive:=fun _=>(Loc->Hp->Opt)->(Ex->Loc->Hp->Opt)->Loc->Hp->Opt)
 (fun b _ l h=>b l h) (fun id _ a l h=>a (.exit id) l h) (fun _ a l h=>a .ret l h) (fun v _ a l h=>a (.pan v) l h) e
def dX(x:Opt)(a:Loc->Hp->Opt)(b:Ex->Loc->Hp->Opt):Opt:=Option.rec none (fun q=>Prod.rec (fun e c=>Prod.rec (fun l h=>exK e a b l h) c) q) x
def asInt:Value->Option (IntKind×Int)
 | .int k n=>some (k,n)|_=>none
abbrev BM:=IntKind->Int->IntKind->Int->Option Value->Option Value
def arK(f:IntKind->Int->Int->Option Value):BM:=fun k m a n _=>Bool.rec none (f k m n) (iS k a)
def binI(op:BinOp):BM:=BinOp.rec (motive:=fun _=>BM)
 (add:=arK fun k x y=>some (.int k (am k (x+y)))) (sub:=arK fun k x y=>some (.int k (am k (x-y)))) (mul:=arK fun k x y=>some (.int k (am k (x*y))))
 (quo:=fun _ _ _ _ s=>s) (rem:=fun _ _ _ _ s=>s) (and:=fun _ _ _ _ s=>s) (or:=fun _ _ _ _ s=>s) (xor:=fun _ _ _ _ s=>s) (andNot:=fun _ _ _ _ s=>s) (shl:=fun _ _ _ _ s=>s) (shr:=fun _ _ _ _ s=>s)
 (eql:=arK fun _ x y=>some (.bool (iD x y))) (neq:=arK fun _ x y=>some (.bool (!iD x y))) (lss:=arK fun _ x y=>some (.bool (mC x y))) (leq:=arK fun _ x y=>some (.bool (!mC y x)))
 (gtr:=arK fun _ x y=>some (.bool (mC y x))) (geq:=arK fun _ x y=>some (.bool (!mC x y))) op
def binK(E:Env)(op:BinOp)(t:TypeId)(x y:Operand)(a b:Value):Option Value:=
 Option.rec (bF E op t x y a b) (fun p=>Option.rec (bF E op t x y a b) (fun q=>binI op p.1 p.2 q.1 q.2 (bF E op t x y a b)) (asInt b)) (asInt a)
abbrev OpM:=Env->Rec->Cx->Option Tmp->Loc->Hp->(Loc->Hp->Opt)->(Ex->Loc->Hp->Opt)->Opt
def jU(r:Option Value)(d:Option Tmp)(l:Loc)(h:Hp)(a:Loc->Hp->Opt):Opt:=Option.rec none (fun v=>a (gJ l d v) h) r
def retHK(r:Option (Hp×Value))(d:Option Tmp)(l:Loc)(a:Loc->Hp->Opt):Opt:=Option.rec none (fun p=>Prod.rec (fun h v=>a (gJ l d v) h) p) r
def tg(r:Option Hp)(d:Option Tmp)(l:Loc)(a:Loc->Hp->Opt):Opt:=Option.rec none (fun h=>a (gJ l d (.tuple #[])) h) r
def dy(op:Op):OpM:=fun E R a d l h b c=>dX (eh E R a ⟨d,op,0,"",#[],none⟩ l h) b c
def outK(o:Out):Option Tmp->Loc->Hp->(Loc->Hp->Opt)->(Ex->Loc->Hp->Opt)->Opt:=Out.rec (motive:=fun _=>Option Tmp->Loc->Hp->(Loc->Hp->Opt)->(Ex->Loc->Hp->Opt)->Opt)
 (fun v d l h a _=>a (gJ l d v) h) (fun v _ l h _ b=>b (.pan v) l h) o
def resK(r:Option (Out×Option (Value×Bool)×Hp))(d:Option Tmp)(l:Loc)(a:Loc->Hp->Opt)(b:Ex->Loc->Hp->Opt):Opt:=Option.rec none (fun q=>Prod.rec (fun o c=>Prod.rec (fun _ h=>outK o d l h a b) c) q) r
def asFn:Value->Option (FuncId×Array Value×Array Value)
 | .func (.func g) a b=>some (g,a,b)|_=>none
def callK(c:Call):OpM:=fun E R e d l h a b=>Callee.rec (motive:=fun _=>Opt)
 (fun f=>Option.rec (dy (.call c) E R e d l h a b) (fun p=>resK (R.call p.1 (p.2.1.toList++c.args.toList.map (evK l)++p.2.2.toList) none h) d l a b) (asFn (evK l f)))
 (fun _ _=>dy (.call c) E R e d l h a b) (fun _=>dy (.call c) E R e d l h a b) c.callee
def opK(op:Op):OpM:=Op.rec (motive:=fun _=>OpM)
 (move:=fun x _ _ _ d l h j _=>j (gJ l d (evK l x)) h)
 (assign:=fun x _ _ _ d l h j _=>j (gJ l d (evK l x)) h)
 (pick:=fun c a b=>dy (.pick c a b))
 (alloc:=fun e=>dy (.alloc e))
 (box:=fun e v=>dy (.box e v))
 (build:=fun t p=>dy (.build t p))
 (buildSlice:=fun t n p=>dy (.buildSlice t n p))
 (insert:=fun t m k v=>dy (.insert t m k v))
 (load:=fun t a E _ _ d l h j _=>jU (fh E h t (evK l a)) d l h j)
 (store:=fun t a v E _ _ d l h j _=>tg (i6 E h t (evK l a) (evK l v)) d l j)
 (ready:=fun g=>dy (.ready g))
 (waits:=fun g=>dy (.waits g))
 (nilCheck:=fun x=>dy (.nilCheck x))
 (binOp:=fun op t x y u E _ _ d l h j _=>jU (binK E op t x y (evK l x) (evK l y)) d l h j)
 (unOp:=fun op t x E _ _ d l h j _=>jU (unP op (evK l x)) d l h j)
 (convert:=fun s t x=>dy (.convert s t x))
 (sliceToArrayPointer:=fun t x=>dy (.sliceToArrayPointer t x))
 (makeInterface:=fun t x=>dy (.makeInterface t x))
 (makeFunc:=fun f a b=>dy (.makeFunc f a b))
 (makeMap:=fun t r=>dy (.makeMap t r))
 (makeChan:=fun t s=>dy (.makeChan t s))
 (makeSlice:=fun t a c=>dy (.makeSlice t a c))
 (slice:=fun t x a b c=>dy (.slice t x a b c))
 (fieldAddr:=fun s x i E _ _ d l h j _=>jU (aE E s (evK l x) i) d l h j)
 (field:=fun t x i E _ _ d l h j _=>jU (bj E t (evK l x) i) d l h j)
 (indexAddr:=fun t x i E _ _ d l h j _=>jU (fi E t (evK l x) (evK l i)) d l h j)
 (index:=fun t x i E _ _ d l h j _=>jU (mG E t (evK l x) (evK l i)) d l h j)
 (lookup:=fun t m k o E _ _ d l h j _=>jU (dE E h t (evK l m) (evK l k) o) d l h j)
 (mapUpdate:=fun t m k v E _ _ d l h j _=>tg (dZ E h t (evK l m) (evK l k) (evK l v)) d l j)
 (mapEntry:=fun t m k E _ _ d l h j _=>retHK (jF E h t (evK l m) (evK l k)) d l j)
 (entryStore:=fun t m s v=>dy (.entryStore t m s v))
 (range:=fun t x=>dy (.range t x))
 (next:=fun i s=>dy (.next i s))
 (entry:=fun i=>dy (.entry i))
 (typeAssert:=fun x s t o=>dy (.typeAssert x s t o))
 (extract:=fun t i=>dy (.extract t i))
 (call:=fun c=>callK c)
 (go:=fun c=>dy (.go c))
 (defer:=fun c=>dy (.defer c))
 (panic:=fun x=>dy (.panic x))
 (send:=fun c x=>dy (.send c x))
 (recv:=fun t c o=>dy (.recv t c o))
 (select:=fun q b=>dy (.select q b)) op
def qW(ops:List Oper)(l:Loc)(o:Oper):Option Bool:=Option.rec (some true) (fun _=>cC ops l.regs o) o.guard
def opsK(E:Env)(R:Rec)(cx:Cx)(ops:List Oper)(c:Loc->Hp->Opt)(d:Ex->Loc->Hp->Opt)(os:List Oper):Loc->Hp->Opt:=List.rec (motive:=fun _=>Loc->Hp->Opt) c
 (fun o _ a l h=>Option.rec none (fun b=>Bool.rec (a (gJ l o.dst (.tuple #[])) h) (opK o.op E R cx o.dst l h a d) b) (qW ops l o)) os
def qL(op:Op):Bool:=Op.rec (motive:=fun _=>Bool)
 (move:=fun _=>true) (assign:=fun _=>true) (pick:=fun _ _ _=>false) (alloc:=fun _=>false) (box:=fun _ _=>false) (build:=fun _ _=>false) (buildSlice:=fun _ _ _=>false)
 (insert:=fun _ _ _ _=>false) (load:=fun _ _=>true) (store:=fun _ _ _=>true) (ready:=fun _=>false) (waits:=fun _=>false) (nilCheck:=fun _=>false) (binOp:=fun _ _ _ _ _=>true)
 (unOp:=fun _ _ _=>true) (convert:=fun _ _ _=>false) (sliceToArrayPointer:=fun _ _=>false) (makeInterface:=fun _ _=>false) (makeFunc:=fun _ _ _=>false) (makeMap:=fun _ _=>false)
 (makeChan:=fun _ _=>false) (makeSlice:=fun _ _ _=>false) (slice:=fun _ _ _ _ _=>false) (fieldAddr:=fun _ _ _=>true) (field:=fun _ _ _=>true) (indexAddr:=fun _ _ _=>true) (index:=fun _ _ _=>true)
 (lookup:=fun _ _ _ _=>true) (mapUpdate:=fun _ _ _ _=>true) (mapEntry:=fun _ _ _=>true) (entryStore:=fun _ _ _ _=>false) (range:=fun _ _=>false) (next:=fun _ _=>false) (entry:=fun _=>false)
 (typeAssert:=fun _ _ _ _=>false) (extract:=fun _ _=>false) (call:=fun _=>false) (go:=fun _=>false) (defer:=fun _=>false) (panic:=fun _=>false) (send:=fun _ _=>false) (recv:=fun _ _ _=>false)
 (select:=fun _ _=>false) op
def re(E:Env)(q i:Nat)(op:Op):Bool:=Bool.rec (Bool.rec false (Xb 3 (cls E op)) (Nat.testBit q i)) false (Xd q 0)
def outDK(o:Out):(Value->Hp->Opt)->Hp->Opt:=Out.rec (motive:=fun _=>(Value->Hp->Opt)->Hp->Opt) (fun v k h=>k v h) (fun _ _ _=>none) o
def resDK(r:Option (Out×Option (Value×Bool)×Hp))(k:Value->Hp->Opt):Opt:=Option.rec none (fun q=>Prod.rec (fun o a=>Prod.rec (fun _ h=>outDK o k h) a) q) r
def kZ(E:Env)(R:Rec)(a:Bool)(o:Oper)(l:Loc)(h:Hp)(k:Value->Hp->Opt):Opt:=Option.rec none (fun p=>k p.1 p.2) (cU E R l.ev a o h)
def vh(h:Hp)(k:Value->Hp->Opt)(v:Value)(a:Hp):Opt:=Bool.rec none (k v {a with lo:=h.lo}) (Xb h.n a.lo)
def callDK(E:Env)(R:Rec)(a:Bool)(o:Oper)(c:Call)(l:Loc)(h:Hp)(k:Value->Hp->Opt):Opt:=Callee.rec (motive:=fun _=>Opt)
 (fun f=>Option.rec (kZ E R a o l h k) (fun p=>Bool.rec (resDK (R.call p.1 (p.2.1.toList++c.args.toList.map (evK l)++p.2.2.toList) none h) k)
   (resDK (R.call p.1 (p.2.1.toList++c.args.toList.map (evK l)++p.2.2.toList) none {h with lo:=h.n}) (vh h k)) a) (asFn (evK l f)))
 (fun _ _=>kZ E R a o l h k) (fun _=>kZ E R a o l h k) c.callee
def asCall(op:Op):Option Call:=match op with
 | .call c=>some c|_=>none
def vH(E:Env)(R:Rec)(a:Bool)(o:Oper)(l:Loc)(h:Hp)(k:Value->Hp->Opt):Opt:=Option.rec (kZ E R a o l h k) (fun c=>callDK E R a o c l h k) (asCall o.op)
def vt(l:Loc)(op:Op):Option Tch:=match touch (l.evD (tmpsOf op.operands.toList)) op with
 |none=>none|some b=>some (.blk b)
abbrev DM:=Nat->Loc->Hp->List (Nat×Tch)->Opt
def wU (E:Env) (R:Rec) (cx:Cx) (q:Nat) (o:Oper) (b:DM) (i:Nat) (l:Loc) (h:Hp) (c:List (Nat×Tch)):Opt:=
 Bool.rec (vH E R (re E q i o.op) o l h fun v a=>b (i+1) (gJ l o.dst v) a (g9 i c (cQ (l.evD (tmpsOf o.op.operands.toList)) (re E q i o.op) o.op h a)))
  (Bool.rec (opK o.op E R cx o.dst l h (fun d a=>b (i+1) d a (g9 i c (vt l o.op))) (fun _ _ _=>none))
    (kZ E R true o l h fun v a=>b (i+1) (gJ l o.dst v) a (g9 i c (vt l o.op))) (re E q i o.op)) (qL o.op)
def pD(E:Env)(R:Rec)(cx:Cx)(ops:List Oper)(q:Nat)(a:DM)(os:List Oper):DM:=List.rec (motive:=fun _=>DM) a
 (fun o _ c i l h d=>Option.rec none (fun b=>Bool.rec (c (i+1) (gJ l o.dst (.tuple #[])) h d) (wU E R cx q o c i l h d) b) (qW ops l o)) os
def drawKo(E:Env)(R:Rec)(cx:Cx)(ops:List Oper)(l:Loc)(h:Hp)(a:Loc->Hp->Opt):Opt:=
 Option.rec none (fun p=>pD E R cx ops p.1 (fun _ l h b=>Bool.rec none (a l h) (cG b p.2)) ops 0 l h []) (jV E ops)
def drawK(E:Env)(R:Rec)(cx:Cx)(ops:List Oper)(l:Loc)(h:Hp)(a:Loc->Hp->Opt):Opt:=drawKo E R cx (bU ops) l h a

abbrev CodeM:=Cx->Code->Loc->Hp->(Loc->Hp->Opt)->(Ex->Loc->Hp->Opt)->Opt
def asBool:Value->Option Bool
 | .bool b=>some b|_=>none
def blkK(e:Ex):Nat->(Loc->Hp->Opt)->(Ex->Loc->Hp->Opt)->Loc->Hp->Opt:=Ex.rec (motive:=fun _=>Nat->(Loc->Hp->Opt)->(Ex->Loc->Hp->Opt)->Loc->Hp->Opt)
 (fun _ b _ l h=>b l h) (fun i id b a l h=>Bool.rec (a (.exit i) l h) (b l h) (Xd i id)) (fun _ _ a l h=>a .ret l h) (fun v _ _ a l h=>a (.pan v) l h) e
def nT(E:Env)(R:Rec)(M:CodeM)(cx:Cx)(c:Code):Loc->Hp->(Loc->Hp->Opt)->(Ex->Loc->Hp->Opt)->Opt:=Code.rec (motive:=fun _=>Loc->Hp->(Loc->Hp->Opt)->(Ex->Loc->Hp->Opt)->Opt)
 (skip:=fun l h a _=>a l h)
 (region:=fun _ g k l h a d=>Bool.rec (opsK E R cx g.toList a d g.toList l h) (Bool.rec (drawK E R cx g.toList l h a) (dX (cutD E R cx g.toList l h) a d) (E.cut cx.fn)) k)
 (seq:=fun _ _ i j l h a d=>i l h (fun l h=>j l h a d) d)
 (cond:=fun c _ _ i j l h a d=>Option.rec none (fun t=>Bool.rec (j l h a d) (i l h a d) t) (asBool (evK l c)))
 (block:=fun id _ m l h a d=>m l h a (fun e l h=>blkK e id a d l h))
 (loop:=fun b m l h a d=>m l h (fun l h=>M cx (.loop b) l h a d) d)
 (rangeFunc:=fun f p o n _ _ l h a d=>dX (iM R cx (evK l f) p o n l h) a d)
 (exit:=fun id l h _ d=>d (.exit id) l h)
 (scope:=fun _ m l h a d=>m l h a d)
 (label:=fun _ l h a _=>a l h)
 (goto:=fun _ _ _ _ _=>none)
 (ret:=fun l h _ d=>d .ret l h)
 (refuse:=fun _ _ _ _ _=>none) c
abbrev oX:=Option (Out×Option (Value×Bool)×Hp)
def uE(E:Env)(R:Rec)(b:Func)(l:Loc)(c:Hp):oX:=match cB R l.dfs none c with
 | some (none,a)=>match bH E l.regs a b.results.toList with
   |none=>none|some d=>some (.ret (ab d),l.rc,a)
 |_=>none
def doneK(E:Env)(R:Rec)(a:Func)(l:Loc)(h:Hp):oX:=List.rec (motive:=fun _=>oX)
 (Option.rec none (fun b=>some (.ret (ab b),l.rc,h)) (bH E l.regs h a.results.toList)) (fun _ _ _=>uE E R a l h) l.dfs
def slowPan(E:Env)(R:Rec)(b:Func)(v:Value)(l:Loc)(c:Hp):oX:=match cB R l.dfs (some v) c with
 |none=>none|some (some v,a)=>some (.pan v,l.rc,a)| some (none,a)=>match bH E l.regs a b.results.toList with
   |none=>none|some d=>some (.ret (ab d),l.rc,a)
def exLeave(e:Ex):Env->Rec->Func->Loc->Hp->oX:=Ex.rec (motive:=fun _=>Env->Rec->Func->Loc->Hp->oX) doneK (fun _ _ _ _ _ _=>none) doneK (fun v E R a l h=>slowPan E R a v l h) e
def leaveK(E:Env)(R:Rec)(a:Func)(r:Opt):oX:=Option.rec none (fun q=>Prod.rec (fun e b=>Prod.rec (fun l h=>exLeave e E R a l h) b) q) r
def wL(E:Env)(R:Rec)(f:FuncId)(args:List Value)(b:Option (Value×Bool))(h:Hp)(a:Func)(body:Code):oX:=
 Bool.rec none (leaveK E R a (R.code ⟨f,a.ntmps,none⟩ body ⟨(Tr.blank (.tuple #[]) a.ntmps a.ntmps).setAll 0 args,[],b⟩ h)) (Xb args.length a.ntmps)
def callBK(E:Env)(R:Rec)(f:FuncId)(args:List Value)(c:Option (Value×Bool))(h:Hp):oX:=
 Option.rec none (fun b=>Option.rec none (fun a=>wL E R f args c h b a) b.body) (E.fn f)
def wG(E:Env)(R:Rec)(f:FuncId)(args:List Value)(a:Option (Value×Bool))(h:Hp):oX:=
 Option.rec (callBK E R f args a h) (fun v=>Option.rec (some (.ret v,none,h)) (fun _=>none) a) (E.orc f args)
structure RK where
 call:FuncId->List Value->Option (Value×Bool)->Hp->oX
 code:CodeM
def RK.rec'(K:RK):Rec:=⟨K.call,fun a c l h=>K.code a c l h (fun l h=>some (.normal,l,h)) (fun e l h=>some (e,l,h))⟩
def botK:RK:=⟨fun _ _ _ _=>none,fun _ _ _ _ _ _=>none⟩
def nextRK(E:Env)(K:RK):RK:=⟨fun f a b h=>wG E K.rec' f a b h,fun d c l h e g=>nT E K.rec' K.code d c l h e g⟩
def runK(E:Env)(n:Nat):RK:=Nat.rec botK (fun _ K=>nextRK E K) n
def envK(a:Tr Func)(b:Tr TypeInfo)(c:List Nat):Env:={fn:=fun f=>getK a f,ty:=fun t=>getK b t,eqok:=fun t=>nK t c}
end
end Go.Ab

namespace Go.Ab
noncomputable section
theorem getK_eq{a:Type}(t:Tr a)(i:Nat):getK t i=t.get i:=rfl
theorem setK_eq{a:Type}(t:Tr a)(i:Nat)(x:a):setK t i x=t.set i x:=rfl

theorem mQ(l:Loc)(d:Option Tmp)(v:Value):gJ l d v=l.put d v:=by
 cases d with
 |none=>rfl|some t=>show Loc.mk (setK l.regs t v) l.dfs l.rc=_;rw [setK_eq];rfl
theorem gk(l:Loc):evK l=l.ev:=by
 funext x;cases x with
 | tmp t=>
   show Option.rec (motive:=fun _=>Value) _ _ (getK l.regs t)=_;rw [getK_eq];simp only [Loc.ev];cases l.regs.get t<;>rfl
 |const v=>simp only [Loc.ev];show Bool.rec (motive:=fun _=>Value) poison v (c7 v)=_;cases c7 v<;>rfl
 |global g=>simp only [Loc.ev];show Bool.rec (motive:=fun _=>Value) poison _ (Xt g 16)=_;cases Xt g 16<;>rfl
 |func f=>rfl

theorem bind2_id(x:Opt):dX x (fun l h=>some (.normal,l,h)) (fun e l h=>some (e,l,h))=x:=by
 cases x with
 |none=>rfl|some q=>obtain⟨e,l,h⟩:=q;cases e<;>rfl
theorem rI(x:Opt)(c:Loc->Hp->Opt)(d:Ex->Loc->Hp->Opt)(f:Loc->Hp->Opt)(a:Ex->Loc->Hp->Opt)(b: ∀e l h,e≠ .normal->d e l h=a e l h):
 dX x (fun l h=>dX (c l h) f a) d=dX (match x with
  |some (.normal,l,h)=>c l h|r=>r) f a:=by
 cases x with
 |none=>rfl| some q=>
   obtain⟨e,l,h⟩:=q;cases e with
   |normal=>rfl|exit i=>exact b _ _ _ (by simp)|ret=>exact b _ _ _ (by simp)|pan v=>exact b _ _ _ (by simp)

theorem binK_eq(E:Env)(op:BinOp)(t:TypeId)(x y:Operand)(a b:Value):binK E op t x y a b=bF E op t x y a b:=by
 cases a<;>(try rfl);cases b<;>(try rfl);rename_i k m c n;cases op<;>(try rfl)
 all_goals (show Bool.rec (motive:=fun _=>Option Value) none _ (iS k c)=(bif iS k c then _ else none);cases iS k c<;>rfl)

theorem retK_eq(r:Option Value)(o:Oper)(l:Loc)(h:Hp)(E:Env)(R:Rec)(a:Loc->Hp->Opt)(b:Ex->Loc->Hp->Opt):jU r o.dst l h a=dX (nY o l (di E R (cL h r))) a b:=by
 cases r with
 |none=>rfl|some v=>show a (gJ l o.dst v) h=a (l.put o.dst v) h;rw [mQ]
theorem retHK_eq(r:Option (Hp×Value))(o:Oper)(l:Loc)(E:Env)(R:Rec)(a:Loc->Hp->Opt)(b:Ex->Loc->Hp->Opt):retHK r o.dst l a=dX (nY o l (di E R (dq r))) a b:=by
 cases r with
 |none=>rfl|some p=>obtain⟨h,v⟩:=p;show a (gJ l o.dst v) h=a (l.put o.dst v) h;rw [mQ]
theorem retUK_eq(r:Option Hp)(o:Oper)(l:Loc)(E:Env)(R:Rec)(a:Loc->Hp->Opt)(b:Ex->Loc->Hp->Opt):tg r o.dst l a=dX (nY o l (di E R (fg r))) a b:=by
 cases r with
 |none=>rfl|some h=>show a (gJ l o.dst (.tuple #[])) h=a (l.put o.dst (.tuple #[])) h;rw [mQ]
theorem resK_eq(R:Rec)(g:FuncId)(args:List Value)(o:Oper)(l:Loc)(h:Hp)(E:Env)(a:Loc->Hp->Opt)(b:Ex->Loc->Hp->Opt):
 resK (R.call g args none h) o.dst l a b=dX (nY o l (di E R (some (.call g args,h)))) a b:=by
 simp only [di];cases R.call g args none h with
 |none=>rfl| some q=>
   obtain⟨x,d,c⟩:=q;cases x with
   |ret v=>show a (gJ l o.dst v) c=a (l.put o.dst v) c;rw [mQ]|pan v=>rfl
theorem lZ{E:Env}{R:Rec}{cx:Cx}{o:Oper}{l:Loc}{h:Hp}{x:Option (dH×Hp)}(b:aop E l.ev h o.op=x)(c: ∀a,x≠some (.recov,a))(e: ∀d a,x≠some (.defer d,a)):eh E R cx o l h=nY o l (di E R x):=by
 unfold eh;rw [b]
 split
 . exact absurd rfl (c _)
 . exact absurd rfl (e _ _)
 . rfl
theorem uz{h:Hp}{r:Option Value}:(∀a,cL h r≠some (.recov,a))/\ ∀d a,cL h r≠some (.defer d,a):=by cases r<;>exact⟨by intros;simp [cL],by intros;simp [cL]⟩
theorem uI{r:Option (Hp×Value)}:(∀a,dq r≠some (.recov,a))/\ ∀d a,dq r≠some (.defer d,a):=by cases r<;>exact⟨by intros;simp [dq],by intros;simp [dq]⟩
theorem ux{r:Option Hp}:(∀a,fg r≠some (.recov,a))/\ ∀d a,fg r≠some (.defer d,a):=by cases r<;>exact⟨by intros;simp [fg],by intros;simp [fg]⟩
theorem opK_eq(E:Env)(R:Rec)(cx:Cx)(o:Oper)(l:Loc)(h:Hp)(q:Loc->Hp->Opt)(s:Ex->Loc->Hp->Opt):opK o.op E R cx o.dst l h q s=dX (eh E R cx o l h) q s:=by
 have w: ∀r,aop E l.ev h o.op=cL h r->jU r o.dst l h q=dX (eh E R cx o l h) q s:=fun r A=>by rw [lZ A uz.1 uz.2];exact retK_eq r o l h E R q s
 have B: ∀r,aop E l.ev h o.op=dq r->retHK r o.dst l q=dX (eh E R cx o l h) q s:=fun r A=>by rw [lZ A uI.1 uI.2];exact retHK_eq r o l E R q s
 have C: ∀r,aop E l.ev h o.op=fg r->tg r o.dst l q=dX (eh E R cx o l h) q s:=fun r A=>by rw [lZ A ux.1 ux.2];exact retUK_eq r o l E R q s
 obtain⟨j,op,D,pos,z,guard⟩:=o;simp only []at w B C⊢;cases op
 case move x=>have:=w (some (l.ev x)) rfl;rw [<-this];show q (gJ l j (evK l x)) h=q (gJ l j (l.ev x)) h;rw [gk]
 case assign x=>have:=w (some (l.ev x)) rfl;rw [<-this];show q (gJ l j (evK l x)) h=q (gJ l j (l.ev x)) h;rw [gk]
 case load t a=>rw [<-w _ rfl];show jU (fh E h t (evK l a)) j l h q=_;rw [gk]
 case store t a v=>rw [<-C _ rfl];show tg (i6 E h t (evK l a) (evK l v)) j l q=_;rw [gk]
 case binOp b t x y u=>rw [<-w (bF E b t x y (l.ev x) (l.ev y)) rfl];show jU (binK E b t x y (evK l x) (evK l y)) j l h q=_;rw [gk,binK_eq]
 case unOp b t x=>rw [<-w (unP b (l.ev x)) rfl];show jU (unP b (evK l x)) j l h q=_;rw [gk]
 case fieldAddr t x i=>rw [<-w (aE E t (l.ev x) i) rfl];show jU (aE E t (evK l x) i) j l h q=_;rw [gk]
 case field t x i=>rw [<-w (bj E t (l.ev x) i) rfl];show jU (bj E t (evK l x) i) j l h q=_;rw [gk]
 case indexAddr t x i=>rw [<-w (fi E t (l.ev x) (l.ev i)) rfl];show jU (fi E t (evK l x) (evK l i)) j l h q=_;rw [gk]
 case index t x i=>rw [<-w (mG E t (l.ev x) (l.ev i)) rfl];show jU (mG E t (evK l x) (evK l i)) j l h q=_;rw [gk]
 case lookup t m k b=>rw [<-w _ rfl];show jU (dE E h t (evK l m) (evK l k) b) j l h q=_;rw [gk]
 case mapUpdate t m k v=>rw [<-C _ rfl];show tg (dZ E h t (evK l m) (evK l k) (evK l v)) j l q=_;rw [gk]
 case mapEntry t m k=>rw [<-B _ rfl];show retHK (jF E h t (evK l m) (evK l k)) j l q=_;rw [gk]
 case call c=>
  show callK c E R cx j l h q s=_;unfold callK;cases F:c.callee with
  |invoke r n=>rfl|builtin b=>rfl| value f=>
    show Option.rec (motive:=fun _=>Opt) (dy (.call c) E R cx j l h q s) _ (asFn (evK l f))=_;rw [gk];cases hf:asFn (l.ev f)with
    |none=>rfl| some p=>
      obtain⟨g,a,b⟩:=p;have B:l.ev f=.func (.func g) a b:=by
       unfold asFn at hf
       split at hf
       . rename_i G;cases hf;exact G
       . cases hf
      have A:aop E l.ev h (.call c)=some (.call g (a.toList++c.args.toList.map l.ev++b.toList),h):=(by simp only [aop,F,B,target]);rw [lZ (o:=⟨j,.call c,D,pos,z,guard⟩) A (by intro H e;cases e) (by intro d H e;cases e)];exact resK_eq R g _ ⟨j,.call c,D,pos,z,guard⟩ l h E q s
 all_goals rfl

theorem yF(ops:List Oper)(l:Loc)(o:Oper):qW ops l o=cC ops l.regs o:=by
 unfold qW;cases a:o.guard with
 |none=>unfold cC;rw [a]|some q=>rfl
theorem opsK_eq(E:Env)(R:Rec)(cx:Cx)(ops:List Oper)(c:Loc->Hp->Opt)(a:Ex->Loc->Hp->Opt): ∀(os:List Oper) (l:Loc) (h:Hp),opsK E R cx ops c a os l h=dX (iB E R cx ops os l h) c a
 | [],l,h=>rfl| o ::os,l,h=>by
   have d:=opsK_eq E R cx ops c a os;show Option.rec (motive:=fun _=>Opt) none (fun b=>Bool.rec (opsK E R cx ops c a os (gJ l o.dst (.tuple #[])) h) (opK o.op E R cx o.dst l h (opsK E R cx ops c a os) a) b) (qW ops l o)=_;rw [yF];simp only [iB];cases cC ops l.regs o with
   |none=>rfl| some b=>
     cases b with
     |false=>show opsK E R cx ops c a os (gJ l o.dst (.tuple #[])) h=_;rw [d,mQ]| true=>
       show opK o.op E R cx o.dst l h (opsK E R cx ops c a os) a=_;rw [opK_eq,show opsK E R cx ops c a os=fun l h=>dX (iB E R cx ops os l h) c a from funext fun l=>funext fun h=>d l h];rw [rI _ _ _ _ _ (fun _ _ _ _=>rfl)];simp only [];cases eh E R cx o l h with
       |none=>rfl|some q=>obtain⟨e,f,g⟩:=q;cases e<;>rfl

end
end Go.Ab

namespace Go.Ab
noncomputable section

theorem xL(E:Env)(R:Rec)(l:Loc)(a:Bool)(o:Oper)(h:Hp):cU E R (l.evD (tmpsOf o.op.operands.toList)) a o h=cU E R l.ev a o h:=by unfold cU;rw [tR (tJ l o.op),tR (tJ l o.op)]
theorem fast_step{E:Env}{R:Rec}{cx:Cx}{o:Oper}{l:Loc}{h:Hp}(hf:qL o.op=true){K:Value->Hp->Opt}:
 dX (eh E R cx o l h) (fun l' a=>none) (fun _ _ _=>none)=none/\
 ∀ c:Loc->Hp->Opt,dX (eh E R cx o l h) c (fun _ _ _=>none)=(match cU E R l.ev false o h with
   |none=>none|some (v,a)=>c (l.put o.dst v) a):=by
 have e: ∀x,aop E l.ev h o.op=x->((∃f r,x=cL f r)\/(∃r,x=dq r)\/ ∃r,x=fg r)-> ∀c:Loc->Hp->Opt,dX (eh E R cx o l h) c (fun _ _ _=>none)=(match cU E R l.ev false o h with
  |none=>none|some (v,a)=>c (l.put o.dst v) a):=by
  intro x i j c;have k:(∀a,x≠some (.recov,a))/\ ∀d a,x≠some (.defer d,a):=by
   rcases j with⟨f,r,rfl⟩|⟨r,rfl⟩|⟨r,rfl⟩
   . exact uz
   . exact uI
   . exact ux
  rw [lZ i k.1 k.2];simp only [cU,cond_false,i];rcases j with⟨f,r,rfl⟩|⟨r,rfl⟩|⟨r,rfl⟩<;>cases r<;>rfl
 have b:(∃f r,aop E l.ev h o.op=cL f r)\/(∃r,aop E l.ev h o.op=dq r)\/ ∃r,aop E l.ev h o.op=fg r:=by
  obtain⟨m,op,n,pos,g,guard⟩:=o;simp only []at hf⊢;cases op<;>(try (cases hf;done))
  all_goals first
   |exact .inl ⟨h,some (l.ev _),rfl⟩
   |exact .inl ⟨h,_,rfl⟩
   |exact .inr (.inl ⟨_,rfl⟩)
   |exact .inr (.inr ⟨_,rfl⟩)
 refine⟨?_,e _ rfl b⟩;rw [e _ rfl b];cases cU E R l.ev false o h<;>rfl
theorem uK(E:Env)(q i:Nat)(op:Op):re E q i op=eQ E q i op:=by
 unfold re eQ;cases a:Xd q 0 with
 | true=>have:q=0:=Xe a;subst this;simp|false=>cases Nat.testBit q i<;>rfl
theorem elseDK_eq (E:Env) (R:Rec) (d:Bool) (o:Oper) (l:Loc) (h:Hp) (k:Value->Hp->Opt):vH E R d o l h k=kZ E R d o l h k:=by
 unfold vH;cases e:asCall o.op with
 |none=>rfl| some c=>
   show callDK E R d o c l h k=_;have t:o.op=.call c:=by
    unfold asCall at e
    split at e
    . rename_i i;cases e;exact i
    . cases e
   unfold callDK;cases j:c.callee with
   |invoke r n=>rfl|builtin b=>rfl| value f =>
     show Option.rec (motive:=fun _=>Opt) (kZ E R d o l h k) _ (asFn (evK l f))=_;rw [gk];cases hf:asFn (l.ev f)with
     |none=>rfl| some p=>
       obtain⟨g,a,b⟩:=p;have u:l.ev f=.func (.func g) a b:=by
        unfold asFn at hf
        split at hf
        . rename_i i;cases hf;exact i
        . cases hf
       have s: ∀h,aop E l.ev h o.op=some (.call g (a.toList++c.args.toList.map l.ev++b.toList),h):=(by intro h;rw [t];simp only [aop,j,u,target]);unfold kZ cU;cases d with
       | false=>
         simp only [cond_false,s,di];show resDK (R.call g (a.toList++c.args.toList.map l.ev++b.toList) none h) k=_;cases R.call g (a.toList++c.args.toList.map l.ev++b.toList) none h with
         |none=>rfl|some q=>obtain⟨x,w,m⟩:=q;cases x<;>rfl
       | true=>
         simp only [cond_true,s,di];show resDK (R.call g (a.toList++c.args.toList.map l.ev++b.toList) none {h with lo:=h.n}) (vh h k)=_;cases R.call g (a.toList++c.args.toList.map l.ev++b.toList) none {h with lo:=h.n}with
         |none=>rfl| some q=>
           obtain⟨x,w,m⟩:=q;cases x with
           |pan v=>rfl| ret v=>
             show vh h k v m=_;simp only [vh];cases Xb h.n m.lo<;>rfl
theorem Bm{op:Op}(h:qL op=true):dM op=false:=by cases op<;>first|rfl|exact absurd h (by simp [qL])
theorem zY (E:Env) (R:Rec) (cx:Cx) (ops:List Oper) (q:Nat) (K:Loc->Hp->List (Nat×Tch)->Opt): ∀(os:List Oper) (i:Nat) (l:Loc) (h:Hp) (a:List (Nat×Tch)),
 pD E R cx ops q (fun _ l h a=>K l h a) os i l h a=(match bI E R ops q os i l h a with
  |none=>none|some (l',c,e)=>K l' c e)
 | [],i,l,h,a=>rfl| o :: os,i,l,h,a=>by
   have j:=zY E R cx ops q K os;show Option.rec (motive:=fun _=>Opt) none (fun b=>Bool.rec (pD E R cx ops q (fun _ l h a=>K l h a) os (i+1) (gJ l o.dst (.tuple #[])) h a) (wU E R cx q o (pD E R cx ops q (fun _ l h a=>K l h a) os) i l h a) b) (qW ops l o)=_;rw [yF];simp only [bI];cases cC ops l.regs o with
   |none=>rfl| some b=>
     cases b with
     |false=>show pD E R cx ops q (fun _ l h a=>K l h a) os (i+1) (gJ l o.dst (.tuple #[])) h a=_;rw [j,mQ]
     | true=>
       show wU E R cx q o (pD E R cx ops q (fun _ l h a=>K l h a) os) i l h a=_;simp only [];have d: ∀g,eQ E q i o.op=g->kZ E R g o l h (fun v c=>pD E R cx ops q (fun _ l h a=>K l h a) os (i+1) (gJ l o.dst v) c (g9 i a (cQ (l.evD (tmpsOf o.op.operands.toList)) g o.op h c)))=
        (match(match cU E R (l.evD (tmpsOf o.op.operands.toList)) (eQ E q i o.op) o h with
          |none=>none|some (v,c)=>bI E R ops q os (i+1) (l.put o.dst v) c (g9 i a (cQ (l.evD (tmpsOf o.op.operands.toList)) (eQ E q i o.op) o.op h c)))with
          |none=>none|some (l',c,e)=>K l' c e):=by
        intro g f;rw [f,xL];unfold kZ;cases cU E R l.ev g o h with
        |none=>rfl|some p=>obtain⟨v,c⟩:=p;show pD E R cx ops q _ os (i+1) (gJ l o.dst v) c _=_;rw [j,mQ]
       unfold wU;cases hf:qL o.op with
       | false=>show vH E R (re E q i o.op) o l h _=_;rw [elseDK_eq,uK];exact d _ rfl| true=>
         have m: ∀b (h c:Hp),cQ (l.evD (tmpsOf o.op.operands.toList)) b o.op h c=vt l o.op:=(by intro b h c;have k:fo o.op=false:=(by cases n:o.op<;>first|rfl|(rw [n]at hf;simp [qL]at hf));unfold cQ vt jG;rw [Bm hf,k];rfl);simp only [m]at d⊢;cases f:re E q i o.op with
         | true=>rw [uK]at f;exact d true f| false=>
           rw [uK]at f;show opK o.op E R cx o.dst l h _ _=_;rw [opK_eq,(fast_step (R:=R) hf (K:=fun _ _=>none)).2,xL,f];cases cU E R l.ev false o h with
           |none=>rfl|some p=>obtain⟨v,c⟩:=p;simp only [];rw [j]
theorem codeK_eq(E:Env)(R:Rec)(M:CodeM)(D: ∀cx c l h d g,M cx c l h d g=dX (R.code cx c l h) d g)(cx:Cx): ∀(c:Code) (l:Loc) (h:Hp) (d:Loc->Hp->Opt) (g:Ex->Loc->Hp->Opt),
 nT E R M cx c l h d g=dX (aI E R cx c l h) d g:=by
 intro c
 induction c with
 |skip=>intro l h d g;rfl|label n=>intro l h d g;rfl| region id j s=>
   intro l h d g;cases s with
   |false=>exact opsK_eq E R cx j.toList d g j.toList l h| true=>
     show(Bool.rec (motive:=fun _=>Opt) (drawK E R cx j.toList l h d) (dX (cutD E R cx j.toList l h) d g) (E.cut cx.fn):Opt)=_;simp only [aI,cond_true];cases E.cut cx.fn with
     |true=>rfl|false=>
     show drawK E R cx j.toList l h d=_;simp only [cond_false];unfold drawK drawKo;generalize bU j.toList=r;cases jV E r with
     |none=>rfl| some p=>
       obtain⟨q,u⟩:=p;show pD E R cx r q (fun _ l h B=>Bool.rec none (d l h) (cG B u)) r 0 l h []=_;rw [zY E R cx r q (fun l h B=>Bool.rec none (d l h) (cG B u))];simp only [];cases bI E R r q r 0 l h []with
       |none=>rfl| some x=>
         obtain⟨a,b,c⟩:=x;simp only [];cases cG c u<;>rfl
 | seq a b k o=>
   intro l h d g;show nT E R M cx a l h (fun l h=>nT E R M cx b l h d g) g=_;rw [k,show(fun l h=>nT E R M cx b l h d g)=fun l h=>dX (aI E R cx b l h) d g from funext fun l=>funext fun h=>o l h d g];rw [rI _ _ _ _ _ (fun _ _ _ _=>rfl)];simp only [aI];cases aI E R cx a l h with
   |none=>rfl|some q=>obtain⟨e,z,A⟩:=q;cases e<;>rfl
 | cond c a b k o=>
   intro l h d g;show Option.rec (motive:=fun _=>Opt) none (fun t=>Bool.rec (nT E R M cx b l h d g) (nT E R M cx a l h d g) t) (asBool (evK l c))=_;rw [gk,k,o];simp only [aI];cases l.ev c<;>(try rfl);rename_i t;cases t<;>rfl
 | block id b w=>
   intro l h d g;show nT E R M cx b l h d (fun e l h=>blkK e id d g l h)=_;rw [w];simp only [aI];cases aI E R cx b l h with
   |none=>rfl| some q=>
     obtain⟨e,z,A⟩:=q;cases e with
     |normal=>rfl|ret=>rfl|pan v=>rfl| exit i=>
       show Bool.rec (motive:=fun _=>Opt) (g (.exit i) z A) (d z A) (Xd i id)=_;simp only [];cases Xd i id<;>rfl
 | loop b w=>
   intro l h d g;show nT E R M cx b l h (fun l h=>M cx (.loop b) l h d g) g=_;rw [w,show(fun l h=>M cx (.loop b) l h d g)=fun l h=>dX (R.code cx (.loop b) l h) d g from funext fun l=>funext fun h=>D cx (.loop b) l h d g];rw [rI _ _ _ _ _ (fun _ _ _ _=>rfl)];simp only [aI];cases aI E R cx b l h with
   |none=>rfl|some q=>obtain⟨e,z,A⟩:=q;cases e<;>rfl
 | rangeFunc f u C y _ _=>intro l h d g;show dX (iM R cx (evK l f) u C y l h) d g=_;rw [gk];rfl|exit id=>intro l h d g;rfl|scope b w=>intro l h d g;exact w l h d g|goto n=>intro l h d g;rfl|ret=>intro l h d g;rfl|refuse m=>intro l h d g;rfl

theorem zu(E:Env)(R:Rec)(a:Func)(l:Loc)(h:Hp):doneK E R a l h=uE E R a l h:=by
 unfold doneK uE;cases b:l.dfs with
 |cons d c=>rfl| nil=>
   simp only [cB];cases bH E l.regs h a.results.toList<;>rfl
theorem callBK_eq(E:Env)(R:Rec)(f:FuncId)(args:List Value)(c:Option (Value×Bool))(h:Hp):callBK E R f args c h=j7 E R f args c h:=by
 unfold callBK j7;cases E.fn f with
 |none=>rfl| some b=>
   show Option.rec (motive:=fun _=>oX) none (fun a=>wL E R f args c h b a) b.body=_;simp only [];cases b.body with
   |none=>rfl| some a=>
     show wL E R f args c h b a=_;unfold wL;simp only [];cases Xb args.length b.ntmps with
     |false=>rfl| true=>
       show leaveK E R b _=_;simp only [cond_true];cases R.code ⟨f,b.ntmps,none⟩ a ⟨(Tr.blank (.tuple #[]) b.ntmps b.ntmps).setAll 0 args,[],c⟩ h with
       |none=>rfl| some q=>
         obtain⟨e,l,d⟩:=q;cases e with
         |exit i=>rfl|pan v=>rfl|normal=>exact zu E R b l d|ret=>exact zu E R b l d

theorem callSK_eq(E:Env)(R:Rec)(f:FuncId)(args:List Value)(a:Option (Value×Bool))(h:Hp):wG E R f args a h=iO E R f args a h:=by
 unfold wG iO;cases E.orc f args with
 |none=>exact callBK_eq E R f args a h|some v=>cases a<;>rfl

theorem AA(E:Env): ∀n,(runK E n).rec'=run E n/\ ∀cx c l h b d,(runK E n).code cx c l h b d=dX ((run E n).code cx c l h) b d
 |0=>⟨rfl,fun _ _ _ _ _ _=>rfl⟩
 | n+1=>by
   obtain⟨i,k⟩:=AA E n;have j: ∀cx c l h b d,(runK E (n+1)).code cx c l h b d=dX ((run E (n+1)).code cx c l h) b d:=(by intro cx c l h b d;show nT E (runK E n).rec' (runK E n).code cx c l h b d=dX (aI E (run E n) cx c l h) b d;rw [i];exact codeK_eq E (run E n) (runK E n).code k cx c l h b d);refine⟨?_,j⟩;show Rec.mk (fun f a g h=>wG E (runK E n).rec' f a g h) (fun cx c l h=>(runK E (n+1)).code cx c l h (fun l h=>some (.normal,l,h)) (fun e l h=>some (e,l,h)))=next E (run E n)
   rw [i];unfold next
   congr 1
   . funext f a g h;exact callSK_eq E (run E n) f a g h
   . funext cx c l h;rw [j,bind2_id];rfl
theorem runK_call(E:Env)(n:Nat)(f:FuncId)(args:List Value)(a:Option (Value×Bool))(h:Hp):(runK E n).call f args a h=(run E n).call f args a h:=by rw [<-(AA E n).1];rfl

theorem envK_eq(a:Tr Func)(b:Tr TypeInfo)(c:List Nat):envK a b c=envOf a b c:=rfl

end
end Go.Ab

namespace Go.Ab
section
variable{E:Env}{ρ:Operand->Value}{h:Hp}
theorem o_move{x:Operand}:aop E ρ h (.move x)=some (.val (ρ x),h):=rfl
theorem o_assign{x:Operand}:aop E ρ h (.assign x)=some (.val (ρ x),h):=rfl
theorem o_load{t:TypeId}{a:Operand}:aop E ρ h (.load t a)=cL h (fh E h t (ρ a)):=rfl
theorem o_store{t:TypeId}{a x:Operand}:aop E ρ h (.store t a x)=fg (i6 E h t (ρ a) (ρ x)):=rfl
theorem o_binOp{op:BinOp}{t u:TypeId}{x y:Operand}:aop E ρ h (.binOp op t x y u)=cL h (bF E op t x y (ρ x) (ρ y)):=rfl
theorem o_unOp{op:UnOp}{t:TypeId}{x:Operand}:aop E ρ h (.unOp op t x)=cL h (unP op (ρ x)):=rfl
theorem C5{f:FuncId}{a b:Array Operand}:aop E ρ h (.makeFunc (.func f) a b)=some (.val (.func (.func f) (a.map ρ) (b.map ρ)),h):=rfl
theorem o_slice{t:TypeId}{x:Operand}{l u m:Option Operand}:aop E ρ h (.slice t x l u m)=cL h (fK E t (ρ x) (l.map ρ) (u.map ρ) (m.map ρ)):=rfl
theorem Bo{s:TypeId}{x:Operand}{i:Nat}:aop E ρ h (.fieldAddr s x i)=cL h (aE E s (ρ x) i):=rfl
theorem o_field{s:TypeId}{x:Operand}{i:Nat}:aop E ρ h (.field s x i)=cL h (bj E s (ρ x) i):=rfl
theorem Bp{t:TypeId}{x i:Operand}:aop E ρ h (.indexAddr t x i)=cL h (fi E t (ρ x) (ρ i)):=rfl
theorem o_index{t:TypeId}{x i:Operand}:aop E ρ h (.index t x i)=cL h (mG E t (ρ x) (ρ i)):=rfl
theorem o_build{t:TypeId}{ps:Array (Nat×Operand)}:aop E ρ h (.build t ps)=cL h (lg E t (ps.toList.map fun p=>(p.1,ρ p.2))):=rfl
theorem zK{t:TypeId}{n:Nat}{ps:Array (Nat×Operand)}:aop E ρ h (.buildSlice t n ps)=dq (jR E h t n (ps.toList.map fun p=>(p.1,ρ p.2))):=rfl
theorem BC{t:TypeId}{l c:Operand}:aop E ρ h (.makeSlice t l c)=dq (jC E h t (ρ l) (ρ c)):=rfl
theorem zD{x:Operand}{s t:TypeId}{a:Bool}:aop E ρ h (.typeAssert x s t a)=cL h (pO E (ρ x) t a):=rfl
theorem o_convert{s t:TypeId}{x:Operand}:aop E ρ h (.convert s t x)=dq (iV E h s t (ρ x)):=rfl
theorem o_lookup{t:TypeId}{m k:Operand}{a:Bool}:aop E ρ h (.lookup t m k a)=cL h (dE E h t (ρ m) (ρ k) a):=rfl
theorem Bq{t:TypeId}{m k v:Operand}:aop E ρ h (.mapUpdate t m k v)=fg (dZ E h t (ρ m) (ρ k) (ρ v)):=rfl
theorem CL{t:TypeId}{m k:Operand}:aop E ρ h (.mapEntry t m k)=dq (jF E h t (ρ m) (ρ k)):=rfl
theorem AZ{t:TypeId}{m s v:Operand}:aop E ρ h (.entryStore t m s v)=fg (lC h (ρ m) (ρ s) (ρ v)):=rfl
theorem o_callv{f:Operand}{as:Array Operand}{ts:Array TypeId}:aop E ρ h (.call ⟨.value f,as,ts⟩)=match target (ρ f) (as.toList.map ρ)with|none=>none|some x=>some (x,h):=rfl
theorem o_max{x y:Operand}{ts:Array TypeId}:aop E ρ h (.call ⟨.builtin .max,#[x,y],ts⟩)=cL h (gL true (ρ x) [ρ y]):=rfl
theorem o_min{x y:Operand}{ts:Array TypeId}:aop E ρ h (.call ⟨.builtin .min,#[x,y],ts⟩)=cL h (gL false (ρ x) [ρ y]):=rfl
theorem o_append{s x:Operand}{ts:Array TypeId}:aop E ρ h (.call ⟨.builtin .append,#[s,x],ts⟩)=dq (dG E h ts.toList (ρ s) (ρ x)):=rfl
theorem o_copy{s x:Operand}{ts:Array TypeId}:aop E ρ h (.call ⟨.builtin .copy,#[s,x],ts⟩)=dq (copyV E h ts.toList (ρ s) (ρ x)):=rfl
end
theorem BQ{h:Hp}{v:Value}:cL h (some v)=some (.val v,h):=rfl
theorem CO{h:Hp}{v:Value}:dq (some (h,v))=some (.val v,h):=rfl
theorem C8{h:Hp}:fg (some h)=some (.skip,h):=rfl
theorem fm(k:IntKind):iS k k=true:=by rw [ig];simp
theorem b_add{E:Env}{t:TypeId}{x y:Operand}{k:IntKind}{m n:Int}:bF E .add t x y (.int k m) (.int k n)=some (.int k (am k (m+n))):=by simp [bF,fm,iz]
theorem b_sub{E:Env}{t:TypeId}{x y:Operand}{k:IntKind}{m n:Int}:bF E .sub t x y (.int k m) (.int k n)=some (.int k (am k (m-n))):=by simp [bF,fm,iz]
theorem b_mul{E:Env}{t:TypeId}{x y:Operand}{k:IntKind}{m n:Int}:bF E .mul t x y (.int k m) (.int k n)=some (.int k (am k (m*n))):=by simp [bF,fm,iz]
theorem mZ(m n:Int):iD m n=decide (m=n):=by rw [ie];by_cases h:m=n<;>simp [h]
theorem b_eql{E:Env}{t:TypeId}{x y:Operand}{k:IntKind}{m n:Int}:bF E .eql t x y (.int k m) (.int k n)=some (.bool (decide (m=n))):=by simp [bF,fm,iz,mZ]
theorem b_neq{E:Env}{t:TypeId}{x y:Operand}{k:IntKind}{m n:Int}:bF E .neq t x y (.int k m) (.int k n)=some (.bool (!decide (m=n))):=by simp [bF,fm,iz,mZ]
theorem b_lss{E:Env}{t:TypeId}{x y:Operand}{k:IntKind}{m n:Int}:bF E .lss t x y (.int k m) (.int k n)=some (.bool (decide (m<n))):=by simp [bF,fm,iz,iG]
theorem b_leq{E:Env}{t:TypeId}{x y:Operand}{k:IntKind}{m n:Int}:bF E .leq t x y (.int k m) (.int k n)=some (.bool (decide (m<=n))):=by
 simp only [bF,fm,iz,iG,cond_true];by_cases a:m<=n
 . rw [decide_eq_true a,decide_eq_false (by omega)];rfl
 . rw [decide_eq_false a,decide_eq_true (by omega)];rfl
theorem b_gtr{E:Env}{t:TypeId}{x y:Operand}{k:IntKind}{m n:Int}:bF E .gtr t x y (.int k m) (.int k n)=some (.bool (decide (n<m))):=by simp [bF,fm,iz,iG]
theorem b_geq{E:Env}{t:TypeId}{x y:Operand}{k:IntKind}{m n:Int}:bF E .geq t x y (.int k m) (.int k n)=some (.bool (decide (n<=m))):=by
 simp only [bF,fm,iz,iG,cond_true];by_cases a:n<=m
 . rw [decide_eq_true a,decide_eq_false (by omega)];rfl
 . rw [decide_eq_false a,decide_eq_true (by omega)];rfl
theorem kT{E:Env}{t:TypeId}{x y:Operand}{k:IntKind}{m n:Int}(h:n≠0):bF E .quo t x y (.int k m) (.int k n)=some (.int k (am k (m.tdiv n))):=by simp [bF,fm,iz,mZ,h]
theorem iY{E:Env}{t:TypeId}{x y:Operand}{k:IntKind}{m n:Int}(h:n≠0):bF E .rem t x y (.int k m) (.int k n)=some (.int k (m.tmod n)):=by simp [bF,fm,iz,mZ,h]
theorem mm_max{k k':IntKind}{a b:Int}:gL true (.int k a) [.int k' b]=some (.int k (max a b)):=by
 simp only [gL,iG,cond_true];by_cases h:a<b
 . rw [decide_eq_true h];simp only [cond_true];rw [Int.max_eq_right (by omega)]
 . rw [decide_eq_false h];simp only [cond_false];rw [Int.max_eq_left (by omega)]
theorem mm_min{k k':IntKind}{a b:Int}:gL false (.int k a) [.int k' b]=some (.int k (min a b)):=by
 simp only [gL,iG,cond_false];by_cases h:b<a
 . rw [decide_eq_true h];simp only [cond_true];rw [Int.min_eq_right (by omega)]
 . rw [decide_eq_false h];simp only [cond_false];rw [Int.min_eq_left (by omega)]
theorem xP{E:Env}{h:Hp}{t:TypeId}{b o:Nat}{s:Option Nat}{v:Value}(a:E.agg t=some false)(c:h.load b o 1=some [v]):fh E h t (.pointer (some ⟨b,o,s⟩))=some v:=by simp [fh,a,c]
theorem wrap64{n:Int}(a: -9223372036854775808<=n)(b:n<9223372036854775808):am .i64 n=n:=by
 unfold am;cases n with
 | ofNat m=>have:Xt m (hf .i64)=true:=(by rw [Nat.blt_eq];simp only [hf];have c:(m:Int)<9223372036854775808:=b;omega);simp only [this,cond_true]| negSucc m=>have:Xt m (hf .i64)=true:=(by rw [Nat.blt_eq];simp only [hf];have: -9223372036854775808<=Int.negSucc m:=a;omega);simp only [sgn,this,cond_true]
theorem uf{c:Type}{a:c}{P:c->Prop}:(∃b,some a=some b/\P b)↔P a:=⟨fun⟨b,d,e⟩=>by cases d;exact e,fun h=>⟨a,rfl,h⟩⟩
theorem A7{a:Bool}{P:Bool->Prop}:(∃t,Value.bool a=Value.bool t/\P t)↔P a:=⟨fun⟨b,c,d⟩=>by cases c;exact d,fun h=>⟨a,rfl,h⟩⟩
end Go.Ab
namespace Go.Ab
theorem cD{v:Value}{l:List Value}:dh (v::l) 0=v:=rfl
theorem dK{v:Value}{l:List Value}{i:Nat}:dh (v::l) (i+1)=dh l i:=rfl
end Go.Ab
namespace Go.Ab
section
variable{l:Loc}
theorem c_int{k:IntKind}{n:Int}:l.ev (.const (.int k n))=.int k n:=rfl
theorem c_bool{b:Bool}:l.ev (.const (.bool b))=.bool b:=rfl
theorem c_string{s:ByteArray}:l.ev (.const (.string s))=.string s:=rfl
theorem c_nilp:l.ev (.const (.pointer none))=.pointer none:=rfl
theorem c_nils:l.ev (.const (.slice none 0 0))=.slice none 0 0:=rfl
theorem c_nilm:l.ev (.const (.map none))=.map none:=rfl
theorem c_nilf:l.ev (.const .nilFunc)=.nilFunc:=rfl
theorem c_nili:l.ev (.const .nilIface)=.nilIface:=rfl
end
end Go.Ab
namespace Go.Ab
def one1:Option (List Value)->Option Value
 |some [v]=>some v|_=>none
theorem one1_some{v:Value}:one1 (some [v])=some v:=rfl
theorem CE{E:Env}{h:Hp}{t:TypeId}{b o:Nat}{s:Option Nat}(a:E.agg t=some false):fh E h t (.pointer (some ⟨b,o,s⟩))=one1 (h.load b o 1):=by simp only [fh,a];unfold one1;rfl
end Go.Ab
namespace Go.Ab
def gv(a:Bool):Option Value->Option Bool
 |some (.bool b)=>some (bif b then a else !a)
 |some (.tuple _)=>some false|_=>none
noncomputable def gj(a:Bool)(b:Tr Value):Option Oper->Option Bool
 |none=>some false| some o=>match o.dst with
   |none=>some false|some d=>gv a (b.get d)
theorem CK{a:List Oper}{c:Tr Value}{d:Option Tmp}{op:Op}{t:TypeId}{p:String}{e:Array Edge}{j:Nat}{b:Bool}:cC a c ⟨d,op,t,p,e,some (j,b)⟩=gj b c (a[j]?):=by
 simp only [cC,gj];cases a[j]? with
 |none=>rfl| some o=>
   simp only [];cases o.dst with
   |none=>rfl| some d=>
     simp only [gv];cases c.get d with
     |none=>rfl|some v=>cases v<;>rfl
theorem gj_some{a:Bool}{b:Tr Value}{d:Tmp}{op:Op}{t:TypeId}{p:String}{c:Array Edge}{g:Option (Nat×Bool)}:gj a b (some ⟨some d,op,t,p,c,g⟩)=gv a (b.get d):=rfl
theorem gv_true{b:Bool}:gv true (some (.bool b))=some b:=by cases b<;>rfl
theorem gv_false{b:Bool}:gv false (some (.bool b))=some (!b):=by cases b<;>rfl
theorem gv_tuple{a:Bool}{x:Array Value}:gv a (some (.tuple x))=some false:=rfl
theorem u_not{b:Bool}:unP .not (.bool b)=some (.bool (!b)):=rfl
theorem target_fn{g:FuncId}{a b:Array Value}{args:List Value}:target (.func (.func g) a b) args=some (.call g (a.toList++args++b.toList)):=rfl
def aN(E:Env)(f:FuncId)(args:List Value)(h:Hp)(v:Value):Prop:=Ret E f args h fun a b=>a=v/\Gr h b
end Go.Ab
namespace Go.Ab
theorem cE{E:Env}{cx:Cx}{Q:fC}{k:List Fr}{l:Loc}{h:Hp}{b:Code}:Run E (lim E) cx Q (.code (.loop b)::k) .normal l h↔Run E (lim E) cx Q (.code b:: .code (.loop b)::k) .normal l h:=by
 rw [<-run_seq];simp only [Run];have:aI E (lim E) cx (.loop b) l h=aI E (lim E) cx (.seq b (.loop b)) l h:=by
  simp only [aI];cases aI E (lim E) cx b l h with
  |none=>rfl| some q=>
    obtain⟨e,a,c⟩:=q;cases e with
    |normal=>show(lim E).code cx (.loop b) a c=_;rw [xC];rfl|exit i=>rfl|ret=>rfl|pan v=>rfl
 rw [this]
def lenK(r:Option (dH×Hp))(h:Hp):Option Value->Option (dH×Hp)
 |some v=>some (.val v,h)|none=>r
theorem o_lenK{E:Env}{ρ:Operand->Value}{h:Hp}{x:Operand}{t:TypeId}:aop E ρ h (.call ⟨.builtin .len,#[x],#[t]⟩)=lenK (match ρ x with
 | .map (some r)=>match h.get r with
   |some (.map a _)=>match E.und t with
    |some (.map _ _)=>some (.val (.int .i64 (.ofNat a.length)),h)|_=>none
   |_=>none
 |_=>none) h (oW E t (ρ x)):=by
 simp only [aop,pop];cases oW E t (ρ x)with
 |some v=>rfl| none=>
   simp only [lenK];cases ρ x<;>rfl
theorem natOf_nn{i:Int}(h:0<=i):iA i=some i.toNat:=by
 cases i with
 |ofNat n=>rfl|negSucc n=>exact absurd h (by simp)
theorem idxP_in{k:IntKind}{i:Int}{n:Nat}(h0:0<=i)(a:i<n):jg (.int k i) n=some i.toNat:=by
 simp only [jg,natOf_nn h0];have:Xt i.toNat n=true:=by rw [Nat.blt_eq];omega
 rw [this];rfl
theorem ju{k:IntKind}{i n:Nat}(a:i<n):jg (.int k (i:Int)) n=some i:=by rw [idxP_in (Int.natCast_nonneg i) (by omega)];simp
theorem ia_slice{E:Env}{t e:TypeId}{k:Nat}{a:Addr}{n c:Nat}{v:Value}(b:E.und t=some (.slice e))(d:E.sz e=some k):fi E t (.slice (some a) n c) v=(jg v n).map fun i=>.pointer (some (gw a (i*k))):=by simp only [fi,b,d];cases jg v n<;>rfl
end Go.Ab
namespace Go.Ab
theorem ag{E:Env}{cx:Cx}{o:Oper}{l:Loc}{K:Ex->Loc->Hp->Prop}{h:Hp}{f:FuncId}{args:List Value}{v:Value}(b:aN E f args h v)(c: ∀a,Gr h a->K .normal (l.put o.dst v) a):fJ E cx o l K (some (.call f args,h)):=
 step_ret b fun d a ⟨e,g⟩=>by rw [e];exact c a g
theorem vW{E:Env}{K:Value->Hp->Prop}{f:FuncId}{args:List Value}{h:Hp}{v:Value}(b:aN E f args h v)(c: ∀a,Gr h a->K v a):jX E K (some (.call f args,h)):=
 yj b fun d a ⟨e,g⟩=>by rw [e];exact c a g
theorem aN.of{E:Env}{f:FuncId}{args:List Value}{h:Hp}{v:Value}(a:Ret E f args h fun v' b=>v'=v/\Gr h b):aN E f args h v:=a
end Go.Ab
namespace Go.Ab
section
variable(E:Env)(cx:Cx)(Q:fC)
def GStep(a:List Oper)(o:Oper)(os:List Oper)(k:List Fr)(l:Loc)(h:Hp):Option Bool->Prop
 |some true=>fJ E cx o l (fun e b c=>Run E (lim E) cx Q (.ops a os::k) e b c) (aop E l.ev h o.op)
 |some false=>Run E (lim E) cx Q (.ops a os::k) .normal (l.put o.dst (.tuple #[])) h|none=>False
def CStep(a b:Code)(k:List Fr)(l:Loc)(h:Hp):Value->Prop
 | .bool true=>Run E (lim E) cx Q (.code a::k) .normal l h| .bool false=>Run E (lim E) cx Q (.code b::k) .normal l h|_=>False
def wJ(a:List Oper)(q:Nat)(ps:List (Nat×Nat))(o:Oper)(os:List Oper)(i:Nat)(c:List (Nat×Tch))(k:List Fr)(l:Loc)(h:Hp):Option Bool->Bool->Prop
 |some true,false=>jX E (fun v b=>Run E (lim E) cx Q (.opsD a q ps os (i+1) (g9 i c (cQ l.ev false o.op h b))::k) .normal (l.put o.dst v) b) (aop E l.ev h o.op)
 |some true,true=>jX E (fun v b=>Xb h.n b.lo=true/\Run E (lim E) cx Q (.opsD a q ps os (i+1) (g9 i c (cQ l.ev true o.op h h))::k) .normal (l.put o.dst v) {b with lo:=h.lo}) (aop E l.ev {h with lo:=h.n} o.op)
 |some false,_=>Run E (lim E) cx Q (.opsD a q ps os (i+1) c::k) .normal (l.put o.dst (.tuple #[])) h|none,_=>False
end
section
variable{E:Env}{cx:Cx}{Q:fC}{k:List Fr}{l:Loc}{h:Hp}
theorem r_ops{a os:List Oper}{o:Oper}:Run E (lim E) cx Q (.ops a (o::os)::k) .normal l h↔GStep E cx Q a o os k l h (cC a l.regs o):=by
 rw [A1];cases cC a l.regs o with
 |none=>exact⟨fun⟨_,e,_⟩=>(by cases e),fun h=>h.elim⟩
 | some b=>
   rw [uf];cases b with
   |true=>rw [if_pos rfl];exact then_step|false=>rw [if_neg (by simp)];exact zM
theorem g_true{a os:List Oper}{o:Oper}:GStep E cx Q a o os k l h (some true)↔fJ E cx o l (fun e l' b=>Run E (lim E) cx Q (.ops a os::k) e l' b) (aop E l.ev h o.op):=zM
theorem g_false{a os:List Oper}{o:Oper}:GStep E cx Q a o os k l h (some false)↔Run E (lim E) cx Q (.ops a os::k) .normal (l.put o.dst (.tuple #[])) h:=zM
theorem r_cond{c:Operand}{a b:Code}:Run E (lim E) cx Q (.code (.cond c a b)::k) .normal l h↔CStep E cx Q a b k l h (l.ev c):=by
 rw [run_cond];cases l.ev c<;>(try (exact⟨fun⟨_,e,_⟩=>(by cases e),fun h=>h.elim⟩));rename_i t;rw [A7];cases t with
 |true=>rw [if_pos rfl];exact zM|false=>rw [if_neg (by simp)];exact zM
theorem c_true{a b:Code}:CStep E cx Q a b k l h (.bool true)↔Run E (lim E) cx Q (.code a::k) .normal l h:=zM
theorem c_false{a b:Code}:CStep E cx Q a b k l h (.bool false)↔Run E (lim E) cx Q (.code b::k) .normal l h:=zM
theorem r_opsD{a os:List Oper}{o:Oper}{q i:Nat}{ps:List (Nat×Nat)}{c:List (Nat×Tch)}:Run E (lim E) cx Q (.opsD a q ps (o::os) i c::k) .normal l h↔wJ E cx Q a q ps o os i c k l h (cC a l.regs o) (eQ E q i o.op):=by
 rw [run_opsD];cases cC a l.regs o with
 |none=>exact⟨fun⟨_,e,_⟩=>(by cases e),fun h=>h.elim⟩
 | some b=>
   rw [uf];cases b with
   | true=>
     rw [if_pos rfl];cases eQ E q i o.op with
     |true=>rw [if_pos rfl];exact zM|false=>rw [if_neg (by simp)];exact zM
   |false=>rw [if_neg (by simp)];exact zM
theorem d_skip{a os:List Oper}{o:Oper}{q i:Nat}{ps:List (Nat×Nat)}{c:List (Nat×Tch)}{b:Bool}:wJ E cx Q a q ps o os i c k l h (some false) b↔Run E (lim E) cx Q (.opsD a q ps os (i+1) c::k) .normal (l.put o.dst (.tuple #[])) h:=zM
theorem mg{i:Nat}{a:List (Nat×Tch)}:g9 i a none=a:=rfl
theorem aM{i:Nat}{b:Tch}{a:List (Nat×Tch)}:g9 i a (some b)=(i,b)::a:=rfl
theorem aS{a:List (Nat×Tch)}:cG a []=true:=rfl
theorem guard_no{a:List Oper}{b:Tr Value}{d:Option Tmp}{op:Op}{t:TypeId}{p:String}{c:Array Edge}:cC a b ⟨d,op,t,p,c,none⟩=some true:=rfl
end
end Go.Ab
namespace Go.Ab
theorem b_eqlB{E:Env}{t:TypeId}{x y:Operand}{a b:Bool}(c:E.und t=some .bool):bF E .eql t x y (.bool a) (.bool b)=some (.bool (bif a then b else !b)):=by simp [bF,gb,eG,c]
theorem b_neqB{E:Env}{t:TypeId}{x y:Operand}{a b:Bool}(c:E.und t=some .bool):bF E .neq t x y (.bool a) (.bool b)=some (.bool (!(bif a then b else !b))):=by simp [bF,gb,eG,c]
theorem same_bool{d:Bool}:(bif d then d else !d)=true:=by cases d<;>rfl
end Go.Ab
namespace Go.Ab
noncomputable def boxR(h:Hp)(t:TypeId):Value->Option (dH×Hp)
 | .chan _=>none|v=>some (.val (ptrTo h.n),h.new (.cells (Tr.ofList (ae v)) (ae v).length t 1))
theorem o_boxR{E:Env}{ρ:Operand->Value}{h:Hp}{t:TypeId}{x:Operand}:aop E ρ h (.box t x)=boxR h t (ρ x):=by simp only [aop];cases ρ x<;>rfl
noncomputable def allocR(h:Hp)(t:TypeId):Option (List Value)->Option (dH×Hp)
 |none=>none|some z=>some (.val (ptrTo h.n),h.new (.cells (Tr.ofList z) z.length t 1))
theorem o_allocR{E:Env}{ρ:Operand->Value}{h:Hp}{t:TypeId}:aop E ρ h (.alloc t)=allocR h t (E.zero t):=by simp only [aop];cases E.zero t<;>rfl
section
variable{E:Env}{cx:Cx}{o:Oper}{l:Loc}{K:Ex->Loc->Hp->Prop}{h:Hp}
theorem ax{ops:List Oper}(h:((ops.any sH||sJ ops)&&ops.all (iH ops.length))=false):bU ops=ops:=by unfold bU;rw [h];rfl
theorem ar{Q:fC}{k:List Fr}{id:Nat}{ops:Array Oper}{q:Nat}{ps:List (Nat×Nat)}{os:List Oper}(b:bU ops.toList=os)(c:jV E os=some (q,ps))(d:Run E (lim E) cx Q (.opsD os q ps os 0 []::k) .normal l h)(a:E.cut cx.fn=false:=by rfl):Run E (lim E) cx Q (.code (.region id ops true)::k) .normal l h:=(run_draw a b c).2 d
end
theorem quiet_ok{h a:Hp}(g:Gr {h with lo:=h.n} a):Xb h.n a.lo=true:=g.hlo
theorem gr_lo{h a:Hp}(g:Gr {h with lo:=h.n} a):Gr h {a with lo:=h.lo}:=
 ⟨g.ok0,g.ok,g.n,g.get,fun _ _ h=>h⟩
end Go.Ab
namespace Go.Ab
theorem hush_s{E:Env}{q i:Nat}{op:Op}:eQ E q i op=(decide (q/2 ^i%2=1)&&decide (3<=cls E op)):=by unfold eQ;rw [Nat.testBit_eq_decide_div_mod_eq,eB]
end Go.Ab
namespace Go.Ab
theorem Br{E:Env}{K:Value->Hp->Prop}{f:FuncId}{args:List Value}{h:Hp}{v:Value}(b:aN E f args {h with lo:=h.n} v)(c: ∀a,Gr h a->K v a):
 jX E (fun v a=>Xb h.n a.lo=true/\K v {a with lo:=h.lo}) (some (.call f args,{h with lo:=h.n})):=
 vW b fun a g=>⟨quiet_ok g,c _ (gr_lo g)⟩
end Go.Ab
namespace Go.Ab
section
variable(E:Env)(cx:Cx)(Q:fC)(a:List Oper)(q:Nat)(ps:List (Nat×Nat))(o:Oper)(os:List Oper)(i:Nat)(k:List Fr)(l:Loc)
def DN(c:Hp->List (Nat×Tch))(x:Option (dH×Hp)):Prop:=jX E (fun v b=>Run E (lim E) cx Q (.opsD a q ps os (i+1) (c b)::k) .normal (l.put o.dst v) b) x
def DQ(h:Hp)(c:List (Nat×Tch))(x:Option (dH×Hp)):Prop:=jX E (fun v b=>Xb h.n b.lo=true/\Run E (lim E) cx Q (.opsD a q ps os (i+1) c::k) .normal (l.put o.dst v) {b with lo:=h.lo}) x
end
section
variable{E:Env}{cx:Cx}{Q:fC}{a:List Oper}{q:Nat}{ps:List (Nat×Nat)}{o:Oper}{os:List Oper}{i:Nat}{k:List Fr}{l:Loc}{h:Hp}{tr:List (Nat×Tch)}{tf:Hp->List (Nat×Tch)}
theorem dn_loud:wJ E cx Q a q ps o os i tr k l h (some true) false↔DN E cx Q a q ps o os i k l (fun b=>g9 i tr (cQ l.ev false o.op h b)) (aop E l.ev h o.op):=zM
theorem dn_quiet:wJ E cx Q a q ps o os i tr k l h (some true) true↔DQ E cx Q a q ps o os i k l h (g9 i tr (cQ l.ev true o.op h h)) (aop E l.ev {h with lo:=h.n} o.op):=zM
theorem dn_val{v:Value}{b:Hp}:DN E cx Q a q ps o os i k l tf (some (.val v,b))↔Run E (lim E) cx Q (.opsD a q ps os (i+1) (tf b)::k) .normal (l.put o.dst v) b:=zM
theorem dn_skip{b:Hp}:DN E cx Q a q ps o os i k l tf (some (.skip,b))↔Run E (lim E) cx Q (.opsD a q ps os (i+1) (tf b)::k) .normal (l.put o.dst (.tuple #[])) b:=zM
theorem cu{f:FuncId}{args:List Value}{P:Value->Hp->Prop}(c:Ret E f args h P)(d: ∀v b,P v b->Run E (lim E) cx Q (.opsD a q ps os (i+1) (tf b)::k) .normal (l.put o.dst v) b):DN E cx Q a q ps o os i k l tf (some (.call f args,h)):=yj c d
theorem bM{f:FuncId}{args:List Value}{v:Value}(c:aN E f args h v)(d: ∀b,Gr h b->Run E (lim E) cx Q (.opsD a q ps os (i+1) (tf b)::k) .normal (l.put o.dst v) b):DN E cx Q a q ps o os i k l tf (some (.call f args,h)):=vW c d
theorem xn{f:FuncId}{args:List Value}{v:Value}(c:aN E f args {h with lo:=h.n} v)(d: ∀b,Gr h b->Run E (lim E) cx Q (.opsD a q ps os (i+1) tr::k) .normal (l.put o.dst v) b):DQ E cx Q a q ps o os i k l h tr (some (.call f args,{h with lo:=h.n})):=Br c d
end
end Go.Ab
namespace Go.Ab
theorem ah{b:Nat}:ptrTo b=.pointer (some ⟨b,0,none⟩):=rfl
end Go.Ab

namespace Go.Ab
open Go.ChangeShapes Go.WideShapes Go.RowKit

theorem len2{c:Type}{l:List c}(h:l.length=2): ∃a b,l=[a,b]:=by
 match l,h with
 | [a,b],_=>exact⟨a,b,rfl⟩
section
variable{H:Type}{enc:TypeId×Value->H}{P:Program}
theorem rV(f:laidOutB P=true){W g:World}(i:Below W.heap.size W g): ∀{ts:List TypeId} {vs:List Value} {c:List (DataW H)} {ps:List MemPlace},(ts.all fun t=>P.readableRec t&&decide (t<P.types.size))=true->
 DataW.TrodAll enc P W 0 (fun _=>true) true ts vs c ps->(∀x∈ps,x.block<W.heap.size)->DataW.TrodAll enc P g 0 (fun b=>decide (b<W.heap.size)) true ts vs c ps
 | [],vs,c,ps,_,h,_=>by
   obtain⟨rfl,rfl,rfl⟩:=trodAll_nil h;exact rfl
 | t::ts,vs,c,ps,a,h,hlt=>by obtain⟨v,j,d,k,p,q,rfl,rfl,rfl,l,m⟩:=trodAll_cons h;simp only [List.all_cons,Xf,decide_eq_true_eq]at a;exact⟨p,q,Below.trod f a.1.1 a.1.2 l i (fun x e=>hlt x (by simp [e])),rV f i a.2 m (fun x e=>hlt x (by simp [e])),rfl⟩
theorem yM{f:Func}{s:ChangeSpec}{a b:Bool}{W u:World}{args:Array Value}{g:List (DataW H)}{c:List MemPlace}{bt:TypeId}
 (y:laidOutB P=true) (k:(f.params.toList.all fun t=>P.readableRec t&&decide (t<P.types.size))=true) (v:s.vars=[])
 (l:DataW.Whole enc P f.params.toList s.vars a W args.toList g [] c) (d:s.fn H (g++[])={results:=[.lit (.bool true)],args:=g}) (j:Below W.heap.size W u)
 (m:P.underlying bt=some .bool) (n:f.resultTypes=#[bt]):
 s.post enc P f a true b false W args (.bool true) u:=by
 have hlt:=l.lt;have o:=l;obtain⟨p,q,z,w,rfl,C,D⟩:=l;rw [v]at w;obtain⟨_,rfl⟩:=trodVars_none w;refine⟨g,[],_,[],p,[],o,?_,?_,?_,⟨j.os,j.output,fun i A=>?_⟩,fun h=>by cases h⟩
 . rw [d,n];exact trodAll_cons_mk (shut_bool m _) trodAll_mk0
 . rw [d];exact rV y j k z (fun x B=>hlt x (by simpa using B))
 . rw [d,v];rfl
 . rw [j.block i A]
   split
   . rename_i r e;rw [r]at e;cases e;exact⟨rfl,rfl,rfl,fun _ _=>rfl⟩
   . rename_i r e;rw [r]at e;cases e;exact .inr ⟨rfl,rfl⟩
   . rfl

end
end Go.Ab

namespace Go.Ab
open Go.ChangeShapes Go.WideShapes Go.RowKit
noncomputable section

def iu(n:Nat):Value->Value
 | .bool b=>.bool b| .int k i=>.int k i| .string s=>.string s| .pointer none=>.pointer none| .pointer (some a)=>if a.spot=none/\a.block<n then .pointer (some ⟨a.block+16,a.off,none⟩)else poison
 | .slice none 0 0=>.slice none 0 0| .slice (some a) c d=>if c<=d then(if a.spot=none/\a.block<n then .slice (some ⟨a.block+16,a.off,none⟩) c d else .slice (some ⟨0,0,none⟩) c d)else poison
 |_=>poison
def absA(n:Nat):Value->Value
 | .agg a=>.agg ⟨a.toList.map (iu n)⟩|v=>iu n v
def absO(n:Nat):Obj->Blk
 | .cells a _ _=>.cells (Tr.ofList (a.toList.map (iu n))) (a.toList.map (iu n)).length 0 0|_=>.dead
def hpW(W:World):Hp:={n:=16+W.heap.size,t:=Tr.ofList (Xh 16 .dead++W.heap.toList.map (absO W.heap.size)),lo:=16+W.heap.size}
def muW(W:World):Mu:=fun b=>if b<16 then .dead else match W.heap[b-16]? with
 |some (.cells a _ _)=>.blk (b-16) 0 a.size|some _=>.dead|none=>.none

theorem hpW_ok(W:World):(hpW W).t.Sized (hpW W).n:=by
 have h:=Tr.sized_ofList (Xh 16 Blk.dead++W.heap.toList.map (absO W.heap.size));have a:(Xh 16 Blk.dead++W.heap.toList.map (absO W.heap.size)).length=16+W.heap.size:=by grind
 rw [a]at h;exact h
theorem hpW_dead(W:World){b:Nat}(h:b<16):(hpW W).get b=some .dead:=by show(Tr.ofList _).get b=_;rw [Tr.get_ofList,Xs (by simpa using h),Xu,if_pos h]
theorem s7(W:World)(c:Nat):(hpW W).get (c+16)=(W.heap[c]?).map (absO W.heap.size):=by show(Tr.ofList _).get (c+16)=_;rw [Tr.get_ofList,List.getElem?_append_right (by simp)];simp
theorem oG(W:World)(c:Nat):muW W (c+16)=match W.heap[c]? with
 |some (.cells cs _ _)=>.blk c 0 cs.size|some _=>.dead|none=>.none:=by
 rfl
theorem arel_W{W:World}{a:Addr}(h:a.spot=none/\a.block<W.heap.size):eY (muW W) ⟨a.block+16,a.off,none⟩ a:=by obtain⟨b,o,s⟩:=a;grind[eY,oG,Xj]
theorem vrel_V(W:World)(v:Value):au (muW W) (iu W.heap.size v) v:=by
 cases v<;>(try exact .poison _)
 . exact .bool _
 . exact .int _ _
 . exact .string _
 . rename_i a;cases a with
   |none=>exact .nilp| some a=>
     simp only [iu]
     split
     . exact .ptr (arel_W ‹_›)
     . exact .poison _
 . rename_i a d e;cases a with
   | none=>
     cases d with
     | zero=>cases e with
       |zero=>exact .nils|succ n=>exact .poison _
     |succ n=>exact .poison _
   | some a=>
     simp only [iu]
     split
     . rename_i c
       split
       . rename_i h;refine .slice c ?_;have:=arel_W h;obtain⟨b,o,s⟩:=a;grind[ep,oG,Xj]
       . refine .slice c ?_;simp_all[ep,muW,Xc]
     . exact .poison _
theorem vrel_A(W:World)(v:Value):au (muW W) (absA W.heap.size v) v:=by
 cases v
 case agg b=>
  refine .agg (by simp) fun i x c a d=>?_;simp only [Xq,Xk]at a;obtain⟨y,e,rfl⟩:=a;grind[vrel_V]
 all_goals (unfold absA;exact vrel_V W _)
theorem hrelW(W:World):aO (muW W) (hpW W) W:=by
 refine⟨hpW_ok W,fun b c a e d=>?_,fun b d=>?_,fun b s c a e f l t u=>?_,fun b d=>?_⟩
 . have w:16<=b:=by
    rcases Xn b 16 with h|h
    . simp_all[muW,if_pos]
    . exact h
   obtain⟨k,rfl⟩: ∃k,b=k+16:=⟨b-16,by omega⟩;rw [oG]at d
   split at d
   next m el n p=>
    cases d;refine⟨absO W.heap.size (.cells m el n),_,by rw [s7,p];rfl,p,m,el,n,rfl,rfl,by simp,Tr.sized_ofList _,fun i v g=>?_,fun h=>absurd rfl h⟩;rw [Tr.get_ofList]at g;simp only [Xq,Xk]at g;obtain⟨y,x,rfl⟩:=g;grind[vrel_V]
   next=>cases d
   next=>cases d
 . rcases Xn b 16 with h|h
   . exact hpW_dead W h
   . obtain⟨k,rfl⟩: ∃k,b=k+16:=⟨b-16,by omega⟩;rw [oG]at d
     split at d
     next=>cases d
     next o q j=>
      rw [s7,j];cases o<;>first|rfl|grind
     next=>cases d
 . have r: ∀b c a e,muW W b=.blk c a e->b=c+16:=by
    intro b c a e d;rcases Xn b 16 with h|h
    . simp_all[muW,if_pos]
    . obtain⟨k,rfl⟩: ∃k,b=k+16:=⟨b-16,by omega⟩;grind[oG]
   grind
 . show b<16+W.heap.size;rcases Xn b 16 with h|h
   . omega
   . obtain⟨k,rfl⟩: ∃k,b=k+16:=⟨b-16,by omega⟩;rw [oG]at d;grind
theorem globW(W:World):lI (muW W):=by intro g a;simp_all[eY,muW,if_pos]
theorem belowW{W w':World}{f:Mu}{m:Hp}(e:Ext (muW W) (hpW W) W f m w'):Below W.heap.size W w':=by
 refine⟨e.os,e.tape,e.output,e.wsize,fun c i=>?_⟩;cases n:W.heap[c]with
 | cells g el o=>have j:W.heap[c]? =some (.cells g el o):=(by grind);have p:muW W (c+16)=.blk c 0 g.size:=(by rw [oG,j]);exact(e.ro (c+16) c 0 g.size _ _ 0 p (by rw [s7,j];rfl)).1| _ =>
   refine e.frame c i fun b l q a=>?_;rcases Xn b 16 with h|h
   . unfold muW at a;rw [if_pos h]at a;cases a
   . obtain⟨k,rfl⟩: ∃k,b=k+16:=⟨b-16,by omega⟩;rw [oG]at a
     split at a
     next r s t d=>
      cases a;rw [Xj i,n]at d;cases d
     next=>cases a
     next=>cases a
theorem calls_W{E:Env}{P:Program}(d:EOk E P){f:FuncId}{args:Array Value}{W:World}(h:aN E f (args.toList.map (absA W.heap.size)) (hpW W) (.bool true)):
 Calls P f args W fun e w'=>e=.returned (.bool true)/\Below W.heap.size W w':=by
 obtain⟨v,A,j,rfl,g⟩:=h;intro k;obtain⟨_,a⟩:=lim_ok d _ _ _ _ _ _ _ j;have l:VL (muW W) (args.toList.map (absA W.heap.size)) args.toList:=by refine⟨by simp,fun i x B a C=>?_⟩;simp only [Xq,Xk]at a;obtain⟨y,D,rfl⟩:=a;grind[vrel_A]
 obtain⟨m,w',c,n,F,o,G,p,q,r,s⟩:=a (muW W) W args none k .normal (hrelW W) (globW W) l trivial (.inl rfl);have:=p.normal;subst this;obtain⟨H,b,t⟩:=r;cases t;obtain⟨u,w,z⟩:=b.res;exact⟨.returned (.bool true),w',n,⟨rfl,belowW o⟩,q,s,b.mode,b.defers,b.kind,u,w,z⟩
theorem load_W{W:World}{a:Addr}{i:Nat}{v:Value}(c:a.spot=none)(h:W.cell? (a.add i)=some v):(hpW W).load (a.block+16) (a.off+i) 1=some [iu W.heap.size v]:=by
 obtain⟨b,o,s⟩:=a;simp only []at c;subst c;have d:(Addr.mk b o none).add i=⟨b,o+i,none⟩:=by grind[Addr.add]
 rw [d]at h;unfold World.cell? at h;simp only []at h
 split at h
 next e el k f=>
  have g:Row (hpW W) (b+16) (e.toList.map (iu W.heap.size)) 0:=⟨_,_,by rw [s7,f];rfl,Tr.sized_ofList _,fun j=>Tr.get_ofList _ j⟩;refine g.load1 ?_;grind
 grind
end
end Go.Ab

namespace Go.Ab
def argEq:Value->Value->Bool
 | .int k a,.int c b=>iS k c&&iD a b| .bool a,.bool b=>bif a then b else !b
 | .string s,.string u=>ic (aG s) (aG u)|_,_=>false
def pX:List Value->List Value->Bool
 | [],[]=>true|a::l,b::m=>argEq a b&&pX l m|_,_=>false
def orcOf:List (Nat×List Value×Value)->Nat->List Value->Option Value
 | [],_,_=>none|(f,as,v)::l,g,a=>bif Xd f g&&pX as a then some v else orcOf l g a
theorem zt{a b:Value}(h:argEq a b=true):a=b:=by
 unfold argEq at h
 split at h
 . rename_i k m c n;simp only [Xf]at h;have d:k=c:=(by simpa [ig]using h.1);have e:m=n:=(by simpa [ie]using h.2);rw [d,e]
 . rename_i a b;cases a<;>cases b<;>first|rfl|cases h
 . rename_i s u;have this:s.data.toList=u.data.toList:=(by have:=h;rw [jB]at this;simpa [aG]using this);cases s with|mk a=>cases u with|mk b=>rw [show a=b from Array.ext' this]
 . cases h
theorem yD: ∀{a b:List Value},pX a b=true->a=b
 | [],[],_=>rfl| [],_::_,h=>by simp [pX]at h|_::_,[],h=>by simp [pX]at h| a::x,b::y,h=>by simp only [pX,Xf]at h;rw [yD h.2,zt h.1]
theorem xV{P:Nat->List Value->Value->Prop}: ∀{l:List (Nat×List Value×Value)},(∀e∈l,P e.1 e.2.1 e.2.2)-> ∀{g:Nat} {args:List Value} {v:Value},orcOf l g args=some v->P g args v
 | [],_,g,args,v,h=>by cases h
 | (f,as,x)::l,b,g,args,v,h=>by
   simp only [orcOf]at h;cases a:Xd f g&&pX as args with
   | true=>
     rw [a]at h;cases h;simp only [Xf]at a;have c:=Xe a.1;have d:=yD a.2;subst c;subst d;exact b _ (Xo)
   | false=>
     rw [a]at h;exact xV (fun e i=>b e (List.mem_cons_of_mem _ i)) h
def isVal(v:Value)(r:Option (Out×Option (Value×Bool)×Hp)):Bool:=match r with
 |some (.ret u,none,_)=>argEq u v|_=>false
theorem isVal_ret{v:Value}{r:Option (Out×Option (Value×Bool)×Hp)}(h:isVal v r=true): ∃a,r=some (.ret v,none,a):=by
 unfold isVal at h
 split at h
 . rw [zt h];exact⟨_,rfl⟩
 . cases h
def n9(E:Env)(P:Program)(e:Nat×List Value×Value):Prop:=(∃a,E.fn e.1=some a/\a.body.isSome=true)/\OrcAt P e.1 e.2.1 e.2.2
theorem known_of{E:Env}{P:Program}(c:EOk E P){n:Nat}{f:Nat}{args:List Value}{v:Value}(b:(args.all c7&&c7 v)=true)(a:isVal v ((runK E n).call f args none hp0)=true):n9 E P (f,args,v):=by simp only [Xf]at b;obtain⟨d,a⟩:=isVal_ret a;rw [runK_call]at a;exact CD c b.1 b.2 a
theorem n9.with{E:Env}{P:Program}{o:Nat->List Value->Option Value}{e:Nat×List Value×Value}(k:n9 E P e):n9 (qS E o) P e:=k
theorem n9.without{E:Env}{P:Program}{o:Nat->List Value->Option Value}{e:Nat×List Value×Value}(k:n9 (qS E o) P e):n9 E P e:=k
theorem eok_table{E:Env}{P:Program}(b:EOk E P){l:List (Nat×List Value×Value)}(c: ∀e∈l,n9 E P e):EOk (qS E (orcOf l)) P:=
 eok_with b fun _ _ _ h=>xV (P:=fun g a v=>n9 E P (g,a,v)) c h
end Go.Ab

namespace Go.Ab

inductive Ob where
 |row (l:List Value) (md:Nat)
 |map (es:List (Value×Value×Nat)) (c:Nat)
 |loop (x:fu)
 |dfr
def Has(h:Hp)(b:Nat):Ob->Prop
 | .row l a=>Row h b l a| .map d c=>h.get b=some (.map d c)| .loop x=>h.get b=some (.loop x)| .dfr=>h.get b=some .dfr
theorem Row.of_get{h f:Hp}{b:Nat}{l:List Value}{md:Nat}(e:f.get b=h.get b)(k:Row h b l md):Row f b l md:=by obtain⟨t,el,a,c,d⟩:=k;exact⟨t,el,by rw [e];exact a,c,d⟩
theorem Has.of_get{h a:Hp}{b:Nat}{o:Ob}(e:a.get b=h.get b)(k:Has h b o):Has a b o:=by
 cases o with
 |row l d=>exact Row.of_get e k|map f c=>exact e.trans k|loop x=>exact e.trans k|dfr=>exact e.trans k
theorem Has.lt{h:Hp}(a:h.t.Sized h.n){b:Nat}{o:Ob}(k:Has h b o):b<h.n:=by
 cases o with
 |row l d=>exact Row.lt a k|map e c=>exact hU a k|loop x=>exact hU a k|dfr=>exact hU a k
theorem Has.some{h:Hp}{b:Nat}{o:Ob}(k:Has h b o):(h.get b).isSome=true:=by
 cases o with
 |row l d=>obtain⟨t,el,a,_⟩:=k;rw [a];rfl
 |map e c=>rw [show h.get b=_ from k];rfl|loop x=>rw [show h.get b=_ from k];rfl|dfr=>rw [show h.get b=_ from k];rfl

structure Mo(M:Nat->Prop)(h h':Hp):Prop where
 ok0:h.t.Sized h.n
 ok:h'.t.Sized h'.n
 n:h.n<=h'.n
 get: ∀b,b<h.n-> ¬M b->h'.get b=h.get b
 lo: ∀x,x<=h.n->x<=h.lo->(∀b,M b->x<=b)->x<=h'.lo
abbrev NoM:Nat->Prop:=fun _=>False
theorem Gr.fr{M:Nat->Prop}{h a:Hp}(g:Gr h a):Mo M h a:=⟨g.ok0,g.ok,g.n,fun b c _=>g.get b c,fun x d e _=>g.lo x d e⟩
theorem Mo.gr{h a:Hp}(g:Mo NoM h a):Gr h a:=⟨g.ok0,g.ok,g.n,fun b c=>g.get b c (fun x=>x),fun x d e=>g.lo x d e (fun _ h=>h.elim)⟩
theorem Mo.refl{M:Nat->Prop}{h:Hp}(a:h.t.Sized h.n):Mo M h h:=(Gr.refl a).fr
theorem Mo.trans{M M':Nat->Prop}{a b c:Hp}(x:Mo M a b)(y:Mo M' b c)(e: ∀i,M' i->M i\/a.n<=i):Mo M a c:=
 ⟨x.ok0,y.ok,Xm x.n y.n,fun i f g=>(y.get i (Nat.lt_of_lt_of_le f x.n) (fun d=>(e i d).elim g (fun h=>by omega))).trans (x.get i f g),
  fun i k m l=>y.lo i (Xm k x.n) (x.lo i k m l) fun j n=>(e j n).elim (l j) (fun h=>by omega)⟩
theorem Mo.mono{M M':Nat->Prop}{a b:Hp}(x:Mo M a b)(c: ∀i,M i->M' i):Mo M' a b:=
 ⟨x.ok0,x.ok,x.n,fun i d e=>x.get i d (fun h=>e (c i h)),fun i f g k=>x.lo i f g fun j l=>k j (c j l)⟩
theorem Mo.new{M:Nat->Prop}{a h:Hp}(g:Mo M a h)(x:Blk):Mo M a (h.new x):=g.trans (M':=NoM) (Gr.new g.ok x).fr (fun _ h=>h.elim)
theorem Mo.put{M:Nat->Prop}{a h:Hp}(g:Mo M a h){b:Nat}(f:a.n<=b\/M b)(x:Blk):Mo M a (h.put b x):=by refine g.trans (M':=fun i=>i=b) ⟨g.ok,put_ok g.ok b x,Xc _,fun i j c=>dk (fun e=>c e.symm),fun i k l d=>?_⟩ (fun i h=>by grind);show i<=dA b h.lo;have:=d b rfl;grind[dA,Xb]
theorem Mo.has{M:Nat->Prop}{a h:Hp}(g:Mo M a h){b:Nat}{o:Ob}(k:Has a b o)(c: ¬M b):Has h b o:=Has.of_get (g.get b (k.lt g.ok0) c) k

abbrev GL:=Value×Nat×List Value
def eZ:GL->Option Nat
 |(.slice (some a) _ _,_,_)=>some a.block|_=>none
def gf(h:Hp)(p:GL):Prop:=(p.1=.slice none 0 0/\p.2.2=[])\/ ∃b n,p.1=.slice (some ⟨b,0,some p.2.1⟩) n n/\n*p.2.1=p.2.2.length/\Row h b p.2.2 1
def keys(L:List (Nat×Ob))(G:List GL):List Nat:=L.map Prod.fst++G.filterMap eZ

structure St(M:Nat->Prop)(h0 h:Hp)(L:List (Nat×Ob))(G:List GL):Prop where
 fr:Mo M h0 h
 own: ∀p∈L,(h0.n<=p.1\/M p.1)/\Has h p.1 p.2
 gown: ∀p∈G,gf h p/\ ∀b,eZ p=some b->h0.n<=b\/M b
 apart:(keys L G).Nodup

section
variable{M:Nat->Prop}{h0 h:Hp}{L:List (Nat×Ob)}{G:List GL}
theorem gf.of_get{c:Hp}{p:GL}(k:gf h p)(e: ∀b,eZ p=some b->c.get b=h.get b):gf c p:=by
 rcases k with k|⟨b,n,a,d,f⟩
 . exact .inl k
 . refine .inr ⟨b,n,a,d,Row.of_get (e b ?_) f⟩;obtain⟨v,k,g⟩:=p;simp only []at a;subst a;rfl
theorem gf.lt(d:h.t.Sized h.n){p:GL}(k:gf h p){b:Nat}(c:eZ p=some b):b<h.n:=by
 rcases k with k|⟨j,n,a,e,f⟩
 . obtain⟨v,g,i⟩:=p;obtain⟨a,e⟩:=k;simp only []at a;subst a;cases c
 . obtain⟨v,g,i⟩:=p;simp only []at a;subst a;cases c;exact Row.lt d f
theorem jz{p:Nat×Ob}(a:p∈L):p.1∈keys L G:=List.mem_append_left _ (Xx a)
theorem hI{p:GL}{b:Nat}(a:p∈G)(c:eZ p=some b):b∈keys L G:=List.mem_append_right _ (List.mem_filterMap.2 ⟨p,a,c⟩)
theorem St.key_lt(S:St M h0 h L G){b:Nat}(a:b∈keys L G):b<h.n:=by
 unfold keys at a;rcases List.mem_append.1 a with a|a
 . obtain⟨p,c,rfl⟩:=List.mem_map.1 a;exact(S.own p c).2.lt S.fr.ok
 . obtain⟨p,c,d⟩:=List.mem_filterMap.1 a;exact(S.gown p c).1.lt S.fr.ok d
theorem St.init(a:h.t.Sized h.n):St M h h [] []:=⟨Mo.refl a,fun _ h=>(by cases h),fun _ h=>(by cases h),.nil⟩
theorem St.ok(S:St M h0 h L G):h.t.Sized h.n:=S.fr.ok
theorem St.gr(S:St NoM h0 h L G):Gr h0 h:=S.fr.gr
theorem St.push(S:St M h0 h L G){b:Nat}{o:Ob}(d:h0.n<=b\/M b)(e:Has h b o)(c:b∉keys L G):St M h0 h ((b,o)::L) G:=
 ⟨S.fr,fun p a=>by
  rcases List.mem_cons.1 a with rfl|a
  . grind
  . exact S.own p a,S.gown,List.nodup_cons.2 ⟨c,S.apart⟩⟩
theorem St.step(S:St M h0 h L G){M':Nat->Prop}{c:Hp}(f:Mo M' h c)(g: ∀b,M' b->M b\/h0.n<=b)(d: ∀b∈keys L G,¬M' b):St M h0 c L G:=
 ⟨S.fr.trans f g,fun p a=>⟨(S.own p a).1,f.has (S.own p a).2 (d _ (jz a))⟩,
  fun p a=>⟨(S.gown p a).1.of_get fun b e=>f.get b ((S.gown p a).1.lt S.ok e) (d b (hI a e)),(S.gown p a).2⟩,S.apart⟩
theorem St.call(S:St M h0 h L G){a:Hp}(g:Gr h a):St M h0 a L G:=S.step (M':=NoM) g.fr (fun _ h=>h.elim) (fun _ _ h=>h)
theorem St.new(S:St M h0 h L G){x:Blk}{o:Ob}(a:Has (h.new x) h.n o):St M h0 (h.new x) ((h.n,o)::L) G:=
 (S.call (Gr.new S.ok x)).push (.inl S.fr.n) a (fun b=>by have:=S.key_lt b;omega)
theorem St.newG(S:St M h0 h L G){x:Blk}{k n:Nat}{vs:List Value}(d:n*k=vs.length)(f:Row (h.new x) h.n vs 1):St M h0 (h.new x) L ((.slice (some ⟨h.n,0,some k⟩) n n,k,vs)::G):=by
 have a:=S.call (Gr.new S.ok x);refine⟨a.fr,a.own,fun p c=>?_,?_⟩
 . rcases List.mem_cons.1 c with rfl|c
   . exact⟨.inr ⟨_,n,rfl,d,f⟩,fun b g=>by cases g;exact .inl S.fr.n⟩
   . exact a.gown p c
 . unfold keys;have e:List.filterMap eZ ((Value.slice (some ⟨h.n,0,some k⟩) n n,k,vs)::G)=h.n::List.filterMap eZ G:=rfl;rw [e];refine(List.perm_middle.nodup_iff).2 (List.nodup_cons.2 ⟨fun i=>?_,S.apart⟩);have:=S.key_lt i;omega
theorem St.nilG(S:St M h0 h L G){k:Nat}:St M h0 h L ((.slice none 0 0,k,[])::G):=
 ⟨S.fr,S.own,fun p a=>by
  rcases List.mem_cons.1 a with rfl|a
  . exact⟨.inl ⟨rfl,rfl⟩,fun b c=>by cases c⟩
  . exact S.gown p a,S.apart⟩
theorem lM{a:Type}{l:List a}{i:Nat}{x y:a}(h:y∈l.set i x):y=x\/ ∃j,j≠i/\l[j]? =some y:=by rw [List.mem_iff_getElem?]at h;grind
theorem oz{a:Type}{l:List a}(h:l.Nodup){i j:Nat}{x:a}(b:l[i]? =some x)(c:l[j]? =some x):i=j:=by grind[Xi,Nat.lt_trichotomy,absurd,List.pairwise_iff_getElem]
theorem lO{L:List (Nat×Ob)}{G:List GL}{i:Nat}{p:Nat×Ob}(a:L[i]? =some p):(keys L G)[i]? =some p.1:=by grind[keys,Xi,Xs]
theorem St.put(S:St M h0 h L G){i b:Nat}{o o':Ob}(g:L[i]? =some (b,o)){x:Blk}(q:Has (h.put b x) b o'):St M h0 (h.put b x) (L.set i (b,o')) G:=by
 have k:=S.own _ (zO g);have f:(keys L G)[i]? =some b:=lO g;refine⟨S.fr.put k.1 x,fun p a=>?_,fun p a=>⟨(S.gown p a).1.of_get fun c l=>?_,(S.gown p a).2⟩,?_⟩
 . rcases lM a with rfl|⟨j,m,a⟩
   . grind
   . have d:=S.own p (zO a);refine⟨d.1,d.2.of_get (dk fun e=>m ?_)⟩;have n:(keys L G)[j]? =some b:=(by rw [lO a];rw [e]);exact oz S.apart n f
 . refine dk fun e=>?_;subst e;have d:=S.apart;unfold keys at d;rw [List.nodup_append]at d;exact d.2.2 b (List.mem_map.2 ⟨_,zO g,rfl⟩) b (List.mem_filterMap.2 ⟨p,a,l⟩) rfl
 . have:keys (L.set i (b,o')) G=keys L G:=(by unfold keys;congr 1;rw [List.map_set];refine List.ext_getElem? fun j=>?_;grind);rw [this];exact S.apart
theorem St.row(S:St M h0 h L G){b:Nat}{l:List Value}{md:Nat}(a:(b,Ob.row l md)∈L):Row h b l md:=(S.own _ a).2
theorem St.ld(S:St M h0 h L G){b o:Nat}{l:List Value}{md:Nat}{v:Value}(a:(b,Ob.row l md)∈L)(c:l[o]? =some v):h.load b o 1=some [v]:=(S.row a).load1 c
theorem St.lds(S:St M h0 h L G){b o n:Nat}{l:List Value}{md:Nat}(a:(b,Ob.row l md)∈L)(c:o+n<=l.length):h.load b o n=some ((l.drop o).take n):=(S.row a).load c
theorem m0{b:Type}{a:b}{l:List b}:a∈a::l:=Xo
theorem m1{c:Type}{a b:c}{l:List c}:a∈b::a::l:=.tail _ m0
theorem m2{d:Type}{a b c:d}{l:List d}:a∈b::c::a::l:=.tail _ m1
theorem m3{e:Type}{a b c d:e}{l:List e}:a∈b::c::d::a::l:=.tail _ m2
theorem m4{f:Type}{a b c d e:f}{l:List f}:a∈b::c::d::e::a::l:=.tail _ m3
theorem m5{g:Type}{a b c d e f:g}{l:List g}:a∈b::c::d::e::f::a::l:=.tail _ m4
theorem m6{i:Type}{a b c d e f g:i}{l:List i}:a∈b::c::d::e::f::g::a::l:=.tail _ m5
theorem m7{j:Type}{a b c d e f g i:j}{l:List j}:a∈b::c::d::e::f::g::i::a::l:=.tail _ m6
theorem St.old(S:St M h0 h L G){b o n:Nat}{l:List Value}(e:h0.load b o n=some l)(a: ¬M b):h.load b o n=some l:=by have:=S.fr.get b (bC S.fr.ok0 e) a;grind[Hp.load]
end
end Go.Ab

namespace Go.Ab

def qB(h:Hp)(X:Hp->Option (dH×Hp))(F:Nat->Value)(o:Ob):Prop:=
 ∃a,(∀x,X {h with lo:=x}=some (.val (F h.n),({h with lo:=x}:Hp).new a))/\(h.t.Sized h.n->Has (h.new a) h.n o)
section
variable{M:Nat->Prop}{h0 h:Hp}{L:List (Nat×Ob)}{G:List GL}
section
variable{E:Env}{cx:Cx}{o:Oper}{l:Loc}{K:Ex->Loc->Hp->Prop}{X:Hp->Option (dH×Hp)}{F:Nat->Value}{ob:Ob}
theorem ac(N:qB h X F ob)(S:St M h0 h L G)(c: ∀a b,St M h0 a ((b,ob)::L) G->h0.n<=b->K .normal (l.put o.dst (F b)) a):fJ E cx o l K (X h):=by obtain⟨d,f,g⟩:=N;have e:X h=_:=f h.lo;rw [e];exact c _ _ (S.new (g S.ok)) S.fr.n
theorem dL{cx:Cx}{Q:fC}{a:List Oper}{q:Nat}{ps:List (Nat×Nat)}{os:List Oper}{i:Nat}{k:List Fr}{c:List (Nat×Tch)}(N:qB h X F ob)(S:St M h0 h L G)
 (e: ∀d b,St M h0 d ((b,ob)::L) G->h0.n<=b->b=h.n->Run E (lim E) cx Q (.opsD a q ps os (i+1) c::k) .normal (l.put o.dst (F b)) d):DQ E cx Q a q ps o os i k l h c (X {h with lo:=h.n}):=by
 obtain⟨f,g,j⟩:=N;rw [g];exact⟨Xa (Xc _),e _ _ (S.new (j S.ok)) S.fr.n rfl⟩
end
theorem bg{v:Value}{t:TypeId}(b: ∀x,v≠ .chan x):qB h (fun h=>boxR h t v) ptrTo (.row (ae v) 1):=by refine⟨.cells (Tr.ofList (ae v)) (ae v).length t 1,fun x=>?_,fun a=>pN a _ _ _⟩;cases v<;>first|rfl|grind
theorem ay{z:List Value}{t:TypeId}:qB h (fun h=>allocR h t (some z)) ptrTo (.row z 1):=
 ⟨.cells (Tr.ofList z) z.length t 1,fun _=>rfl,fun a=>pN a _ _ _⟩
noncomputable def mapR(h:Hp):Option (dH×Hp):=some (.val (.map (some h.n)),h.new (.map [] 0))
theorem CT{E:Env}{ρ:Operand->Value}{h:Hp}{t:TypeId}:aop E ρ h (.makeMap t none)=mapR h:=rfl
theorem qQ:qB h mapR (fun b=>.map (some b)) (.map [] 0):=⟨.map [] 0,fun _=>rfl,fun a=>by show(h.new _).get h.n=_;rw [h.get_new _ a,if_pos rfl]⟩
theorem zW(a:List Value): ∀n,(a9 a n).length=n*a.length
 |0=>by simp [a9]|n+1=>by simp only [a9,Xp,zW a n];rw [Nat.succ_mul];omega
theorem row_blank{h:Hp}(a:h.t.Sized h.n)(z:Value)(n:Nat)(e:TypeId):Row (h.new (.cells (Tr.blank z n n) n e 1)) h.n (Xh n z) 1:=by
 refine⟨Tr.blank z n n,e,?_,?_,fun i=>?_⟩
 . rw [h.get_new _ a,if_pos rfl,Xw]
 . rw [Xw];exact Tr.sized_blank _ _ _ (Xc _)
 . rw [Tr.get_blank _ _ _ (Xc _),Xu]
def eK(E:Env)(e:TypeId)(a k:Nat)(b:List Value):Prop:=(∃i,E.ty e=some i/\i.bytes=a/\i.size=k)/\E.zero e=some b/\b.length=k
theorem kH{E:Env}{t e:TypeId}{d k:Nat}{c:List Value}{kd kd':IntKind}{n:Int}(o:E.und t=some (.slice e))(u:eK E e d k c)(h0:0<=n)(v:n.toNat*(d+1)<=70368744177664):
 qB h (fun h=>dq (jC E h t (.int kd n) (.int kd' n))) (fun b=>.slice (some ⟨b,0,none⟩) n.toNat n.toNat) (.row (a9 c n.toNat) 1):=by
 obtain⟨⟨i,p,rfl,rfl⟩,q,w⟩:=u;obtain⟨m,rfl⟩:=Int.eq_ofNat_of_zero_le h0;have hle:Xb (m*(i.bytes+1)) 70368744177664=true:=Xa v;have r:Xd c.length i.size=true:=by simp_all
 have f:natV (.int kd (m:Int))=some m:=rfl;have g:natV (.int kd' (m:Int))=some m:=rfl;have s:(Xb m m&&Xb (m*(i.bytes+1)) 70368744177664)=true:=by simp_all
 by_cases y: ∃z,c=[z]
 . obtain⟨z,rfl⟩:=y;refine⟨.cells (Tr.blank z m m) m e 1,fun x=>?_,fun j=>?_⟩
   . simp only [jC,o,p,q,f,g,s,r,cond_true,dq];rfl
   . have:a9 [z] (m:Int).toNat=Xh m z:=by
      have: ∀n,a9 [z] n=Xh n z:=by intro n;induction n with
       |zero=>rfl|succ n A=>simp [a9,A,List.replicate_succ]
      exact this m
     rw [this];exact row_blank j z m e
 . refine⟨.cells (Tr.ofList (a9 c m)) (m*i.size) e 1,fun x=>?_,fun j=>?_⟩
   . simp only [jC,o,p,q,f,g,s,r,cond_true];cases c with
     |nil=>rfl| cons a l=>
       cases l with
       |nil=>grind|cons b l=>rfl
   . have:=pN j (a9 c m) e 1;rw [zW,w]at this;show Row _ _ (a9 c m) 1;omega

theorem St.store(S:St M h0 h L G){E:Env}{t:TypeId}{i b off n md:Nat}{s:Option Nat}{l:List Value}{v:Value}(d:L[i]? =some (b,.row l md))(j:E.sz t=some n)(k: ∀x,v≠ .chan x)(e:(ae v).length=n)
 (hf:(ae v).all lh=true) (f:off+n<=l.length) (a:md≠0): ∃c,i6 E h t (.pointer (some ⟨b,off,s⟩)) v=some c/\St M h0 c (L.set i (b,.row (lay l off (ae v)) md)) G/\Mo (· =b) h c:=by
 subst e;obtain⟨x,m,g⟩:=(S.row (zO d)).store S.ok a (vs:=ae v) f hf;refine⟨h.put b x,?_,S.put d g,(Mo.refl (M:=(· =b)) S.ok).put (.inr rfl) x⟩;grind[i6,Xd,ae,Xl]
section
variable{E:Env}{cx:Cx}{o:Oper}{l:Loc}{K:Ex->Loc->Hp->Prop}
theorem aC{x:Option Hp}{P:Hp->Prop}(b: ∃a,x=some a/\P a)(c: ∀a,P a->K .normal (l.put o.dst (.tuple #[])) a):fJ E cx o l K (fg x):=by obtain⟨a,rfl,d⟩:=b;exact c a d
theorem dP{x:Option (Hp×Value)}{P:Hp->Value->Prop}(b: ∃a v,x=some (a,v)/\P a v)(c: ∀a v,P a v->K .normal (l.put o.dst v) a):fJ E cx o l K (dq x):=by obtain⟨a,v,rfl,d⟩:=b;exact c a v d
theorem df{cx:Cx}{Q:fC}{a:List Oper}{q:Nat}{ps:List (Nat×Nat)}{os:List Oper}{i:Nat}{k:List Fr}{c:Hp->List (Nat×Tch)}{x:Option Hp}{P:Hp->Prop}(d: ∃b,x=some b/\P b)
 (e: ∀b,P b->Run E (lim E) cx Q (.opsD a q ps os (i+1) (c b)::k) .normal (l.put o.dst (.tuple #[])) b):DN E cx Q a q ps o os i k l c (fg x):=by
 obtain⟨b,rfl,f⟩:=d;exact e b f
theorem dn_v{cx:Cx}{Q:fC}{a:List Oper}{q:Nat}{ps:List (Nat×Nat)}{os:List Oper}{i:Nat}{k:List Fr}{c:Hp->List (Nat×Tch)}{x:Option (Hp×Value)}{P:Hp->Value->Prop}(d: ∃b v,x=some (b,v)/\P b v)
 (e: ∀b v,P b v->Run E (lim E) cx Q (.opsD a q ps os (i+1) (c b)::k) .normal (l.put o.dst v) b):DN E cx Q a q ps o os i k l c (dq x):=by
 obtain⟨b,v,rfl,f⟩:=d;exact e b v f
end

theorem qz{L:List (Nat×Ob)}{G:List GL}{j:Nat}{p c:GL}(i:(keys L G).Nodup)(d:G[j]? =some p){b:Nat}(e:eZ c=some b)(a:b∉keys L G):(keys L (G.set j c)).Nodup:=by
 obtain⟨hlt,f⟩:=List.getElem?_eq_some_iff.1 d;have k:G=G.take j++p::G.drop (j+1):=by rw [<-f,List.getElem_cons_drop hlt,List.take_append_drop]
 have g:G.set j c=G.take j++c::G.drop (j+1):=List.set_eq_take_append_cons_drop.trans (if_pos hlt);unfold keys at*
 rw [g,List.filterMap_append,List.filterMap_cons_some e,<-List.append_assoc];refine List.perm_middle.nodup_iff.2 (List.nodup_cons.2 ⟨fun l=>a ?_,?_⟩)
 . grind
 grind
theorem St.grow (S:St M h0 h L G) {E:Env} {t tx e:TypeId} {u k j m:Nat} {zs vs new:List Value} {v x:Value} (K:G[j]? =some (v,k,vs)) (hu:E.und t=some (.slice e)) (he:eK E e u k zs) (N:0<u)
 (P:d9 E tx=some false) (af:aR h k x=some (m,new)) (hm:m*k=new.length) (z:0<k) (hf:new.all lh=true) (Q:(vs.length+new.length)*(u+1)<=70368744177664) {ts:List TypeId}:
 ∃A v',dG E h (t::tx::ts) v x=some (A,v')/\St M h0 A L (G.set j (v',k,vs++new)):=by
 obtain⟨⟨i,hi,rfl,rfl⟩,hz,hl⟩:=he;have hlt:=(List.getElem?_eq_some_iff.1 K).1;obtain⟨hg,B⟩:=S.gown _ (zO K);have ai : ∀ a d,v=.slice a d d->d*i.size=vs.length->(a=none/\d=0\/ ∃b,a=some ⟨b,0,some i.size⟩/\Row h b vs 1)->
  ∃A v',fH E h e i a d d m new=some (A,v')/\St M h0 A L (G.set j (v',i.size,vs++new)):=by
  intro a d hv C ha;by_cases f:m=0
  . subst f;have:new=[]:=(by grind);subst this;refine⟨h,v,?_,?_⟩
    . unfold fH;rw [Xa (by omega:d+0<=d)];grind
    . rw [List.append_nil];have:G.set j (v,i.size,vs)=G:=(by refine List.ext_getElem? fun n=>?_;grind);grind
  . have ak : Xb (d+m) d=false:=by
     cases P:Xb (d+m) d with
     |false=>rfl|true=>exact absurd (Nat.le_of_ble_eq_true P) (by omega)
    have D:d+m<=vs.length+new.length:=(by rw [<-C,<-hm];have f:=Xv d z;have R:=Xv m z;omega);have O:(Xb ((d+m)*(i.bytes+1)) 70368744177664&&Xt 0 i.bytes)=true:=(by rw [Xa (Xm (Nat.mul_le_mul_right _ D) Q)];simp_all);have al:Xd zs.length i.size=true:=(by simp_all);have r:fH E h e i a d d m new=om h e i.size a d m new:=(by unfold fH;grind);rw [r];rcases ha with⟨rfl,rfl⟩|⟨b,rfl,F⟩
    . have T:vs=[]:=(by grind);subst T;refine⟨h.new (.cells (Tr.ofList new) new.length e 1),.slice (some ⟨h.n,0,some i.size⟩) m m,rfl,?_⟩;have U:=S.call (Gr.new S.ok (.cells (Tr.ofList new) new.length e 1));have w:h.n∉keys L G:=fun z=>(by have:=S.key_lt z;omega);refine⟨U.fr,U.own,fun p o=>?_,qz S.apart K (b:=h.n) rfl w⟩;rcases lM o with rfl|⟨j',_,o⟩
      . exact⟨.inr ⟨h.n,m,rfl,hm,pN S.ok new e 1⟩,fun b N=>by cases N;exact .inl S.fr.n⟩
      . exact U.gown p (zO o)
    . obtain ⟨H,el,s,I,an⟩:=F;have V:jH H vs.length 0 (d*i.size) new=some (H.pushAll vs.length new,vs.length+new.length):=(by grind[jH,Xl]);refine⟨(h.put b .dead).new (.cells (H.pushAll vs.length new) (vs.length+new.length) e 1),.slice (some ⟨h.n,0,some i.size⟩) (d+m) (d+m),?_,?_⟩
      . unfold om;simp only [s,V,hf,Xl];rfl
      . have J:eZ (v,i.size,vs)=some b:=(by rw [hv];rfl);have aL:=hU S.ok s;have y:=(S.fr.put (B b J) .dead);have W: ∀c∈L.map Prod.fst,c≠b:=fun c X e=>(by have f:=S.apart;grind[keys,List.nodup_append,zO]);have l: ∀c,c<h.n->c≠b->((h.put b .dead).new (.cells (H.pushAll vs.length new) (vs.length+new.length) e 1)).get c=h.get c:=fun c X Y=>(by rw [Hp.get_new _ _ y.ok,if_neg (by show c≠h.n;omega)];exact dk (Ne.symm Y));have w:h.n∉keys L G:=fun z=>(by have:=S.key_lt z;omega);refine⟨y.new _,fun p o=>?_,fun p o=>?_,qz S.apart K (b:=h.n) rfl w⟩
        . have f:=S.own p o;exact⟨f.1,f.2.of_get (l _ (f.2.lt S.ok) (W _ (Xx o)))⟩
        . rcases lM o with rfl|⟨j',Z,o⟩
          . refine⟨.inr ⟨h.n,d+m,rfl,?_,?_⟩,fun b N=>by cases N;exact .inl S.fr.n⟩
            . grind
            . refine⟨H.pushAll vs.length new,e,?_,?_,fun n=>?_⟩
              . rw [Hp.get_new _ _ y.ok];rw [if_pos (show h.n=(h.put b .dead).n from rfl),Xp]
              . rw [Xp];exact Tr.sized_pushAll _ I
              grind[Tr.get_pushAll]
          . have f:=S.gown p (zO o);refine⟨f.1.of_get fun c X=>l c (f.1.lt S.ok X) fun e=>Z ?_,f.2⟩;subst e
            -- two lists with a0 ad
            have R:=S.apart;unfold keys at R;have h3:=(List.nodup_append.1 R).2.1;have a1: ∀(G:List GL) (a c:Nat) (p q:GL),(G.filterMap eZ).Nodup->G[a]? =some p->G[c]? =some q-> ∀x,eZ p=some x->eZ q=some x->a=c:=by
             intro G
             induction G with
             |nil=>grind| cons g G ih=>grind
            grind
 unfold dG;simp only [P];unfold jP;simp only [hu,hi];rcases hg with⟨k1,k2⟩|⟨b,n,k1,k2,k3⟩
 . grind
 simp_all
end
end Go.Ab

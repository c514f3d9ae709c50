/- A deterministic evaluator of the model's code, and that the model follows it (part 5). -/
import Derived.Test.YtdicllcgofpggaaGreatDoorAbD
import Derived.ChangeSame
import Derived.RowKit3
import Derived.JoinedOf
import Derived.KernelRfl
import Derived.WalkKit
import Derived.ProofKit
import Derived.OpenShut
import Derived.Carry
open Iff renaming rfl->zB
open List renaming mem_of_getElem?->zM,map_congr_left->Xf,replicate->Xg,getElem?_eq_some_iff->Xh,mem_cons_self->Xn,length_append->Xo,getElem?_map->Xp,drop_eq_getElem_cons->Xq,getElem?_append_left->Xr,getElem?_replicate->Xt,length_replicate->Xv,mem_map_of_mem->Xw
open Nat renaming ble_eq_true_of_le->zO,ble->Xa,le_refl->Xb,beq->Xc,eq_of_beq_eq_true->Xd,beq_refl->Xk,le_trans->Xl,lt_or_ge->Xm,blt->Xs,le_mul_of_pos_right->Xu
open Bool renaming and_eq_true->Xe
open Array renaming getElem?_eq_getElem->Xi
open Option renaming map_eq_some_iff->Xj
set_option maxHeartbeats 400000
set_option linter.defProp false
set_option linter.unusedVariables false
set_option linter.unusedSimpArgs false
namespace Go.Ab

def tabF:Nat->Nat->(Nat->Value)->Tr Value
 |0,_,_=>.nil| f+1,n,a=>match n with
   |0=>.nil|k+1=>.node (a 0) (tabF f ((k+1)/2) fun i=>a (2*i+1)) (tabF f (k/2) fun i=>a (2*i+2))
def tab(n:Nat)(ρ:Nat->Value):Tr Value:=tabF n n ρ
theorem get_tabF(f n:Nat)(ρ:Nat->Value)(h:n<=f)(j:Nat):(tabF f n ρ).get j=if j<n then some (ρ j)else none:=by
 induction f generalizing n j ρ with
 |zero=>grind[tabF,Tr.get_nil]| succ f a=>
   cases n with
   |zero=>rfl| succ k=>simp only [tabF];rw [Tr.get_node];grind
theorem mj(n:Nat)(ρ:Nat->Value)(j:Nat):(tab n ρ).get j=if j<n then some (ρ j)else none:=get_tabF n n ρ (Xb _) j
theorem Tr.ext{d:Type}{t t':Tr d}(h: ∀i,t.get i=t'.get i):t=t':=by
 induction t generalizing t' with
 | nil=>
   cases t' with
   |nil=>rfl|node y l r=>have:=h 0;simp [Tr.get_nil,Tr.get_node]at this
 | node x l r a b=>
   cases t' with
   |nil=>have:=h 0;simp [Tr.get_nil,Tr.get_node]at this| node y e f=>
     have c:=h 0;simp [Tr.get_node]at c;subst c;rw [a (t':=e) (fun i=>by have:=h (2*i+1);simp_all[Tr.get_node,if_pos]),
      b (t':=f) (fun i=>by have:=h (2*i+2);simp only [Tr.get_node]at this;grind)]

def am(ρ:Nat->Value)(t:Nat)(v:Value):Nat->Value:=fun i=>if i=t then v else ρ i
theorem aS(ρ:Nat->Value)(t:Nat)(v:Value)(i:Nat):am ρ t v i=if i=t then v else ρ i:=rfl
theorem tab_set(n:Nat)(ρ:Nat->Value)(t:Nat)(v:Value):(tab n ρ).set t v=tab n (am ρ t v):=by
 apply Tr.ext;intro i;rw [Tr.get_set,mj,mj];by_cases a:i<n
 . by_cases e:t=i
   . subst e;simp [a,am]
   . simp [a,e,am,Ne.symm e]
 . simp [a]
def dy:List Value->Nat->Value
 | [],_=>.tuple #[]| v::l,i=>match i with
   |0=>v|i+1=>dy l i
theorem argR_eq(l:List Value)(i:Nat):dy l i=(l[i]?).getD (.tuple #[]):=by
 induction l generalizing i with
 |nil=>rfl| cons v l a=>cases i with
   |zero=>rfl|succ i=>simp [dy,a]
theorem args_tab{n:Nat}{args:List Value}(h:args.length<=n):(Tr.blank (.tuple #[]) n n:Tr Value).setAll 0 args=tab n (dy args):=by apply Tr.ext;intro i;rw [Tr.get_setAll _ 0 args n (Tr.sized_blank _ _ _ (Xb _)) (by omega),mj,Tr.get_blank _ _ _ (Xb _),argR_eq];grind

def LL(n:Nat)(ρ:Nat->Value)(d:List Deferred)(a:Option (Value×Bool)):Loc:=⟨tab n ρ,d,a⟩
theorem cw(n:Nat)(ρ:Nat->Value)(d:List Deferred)(a:Option (Value×Bool))(t:Nat)(v:Value):(LL n ρ d a).put (some t) v=LL n (am ρ t v) d a:=by simp only [LL,Loc.put,tab_set]
theorem ll_put0(l:Loc)(v:Value):l.put none v=l:=rfl
theorem bZ(n:Nat)(ρ:Nat->Value)(d:List Deferred)(a:Option (Value×Bool))(t:Nat)(h:t<n):(LL n ρ d a).ev (.tmp t)=ρ t:=by simp only [LL,Loc.ev,mj,if_pos h]
theorem ll_func(l:Loc)(f:Nat):l.ev (.func f)=.func (.func f) #[] #[]:=rfl
theorem ll_regs(n:Nat)(ρ:Nat->Value)(d:List Deferred)(a:Option (Value×Bool)):(LL n ρ d a).regs=tab n ρ:=rfl
def Then(x:Option (Ex×Loc×Hp))(K:Ex->Loc->Hp->Prop):Prop:= ∃e l h,x=some (e,l,h)/\K e l h
theorem iV{e:Ex}{l:Loc}{h:Hp}{K:Ex->Loc->Hp->Prop}:Then (some (e,l,h)) K↔K e l h:=by
 constructor
 . intro⟨_,_,_,h1,a⟩;grind
 . intro a;exact⟨_,_,_,rfl,a⟩

abbrev fq:=Ex->Loc->Hp->Prop
inductive Fr where
 |code (c:Code)
 |blk (id:Nat)
 |ops (all os:List Oper)
 |opsD (all:List Oper) (q:Nat) (ps:List (Nat×Nat)) (os:List Oper) (i:Nat) (tr:List (Nat×Tch))
 |kill (t:Tmp)
section
variable(E:Env)(R:Rec)(cx:Cx)(Q:fq)
def Run:List Fr->Ex->Loc->Hp->Prop
 | [],e,l,h=>Q e l h| .code c::k,.normal,l,h=> ∃g d f,aG E R cx c l h=some (g,d,f)/\Run k g d f| .ops a m::k,.normal,l,h=> ∃g d f,iG E R cx a m l h=some (g,d,f)/\Run k g d f| .opsD a q n m i o::k,.normal,l,h=> ∃d f j,bN E R a q m i l h o=some (d,f,j)/\cB j n=true/\Run k .normal d f| .kill t::k,.normal,l,h=> ∃b p c,l.ev (.tmp t)=.map (some b)/\h.get b=some (.map p c)/\Run k .normal l (h.put b .dead)| .blk _::k,.normal,l,h=>Run k .normal l h| .blk id::k,.exit i,l,h=>if i=id then Run k .normal l h else Run k (.exit i) l h
 |_::k,.exit i,l,h=>Run k (.exit i) l h|_::k,.ret,l,h=>Run k .ret l h|_::k,.pan v,l,h=>Run k (.pan v) l h
end
section
variable{E:Env}{R:Rec}{cx:Cx}{Q:fq}{k:List Fr}{l:Loc}{h:Hp}

theorem run_nil{e:Ex}:Run E R cx Q [] e l h↔Q e l h:=zB
theorem run_skip:Run E R cx Q (.code .skip::k) .normal l h↔Run E R cx Q k .normal l h:=by simp only [Run,aG];exact iV
theorem run_seq{a b:Code}:Run E R cx Q (.code (.seq a b)::k) .normal l h↔Run E R cx Q (.code a:: .code b::k) .normal l h:=by
 simp only [Run,aG];constructor
 . intro⟨e',l',h',c,h2⟩;cases e:aG E R cx a l h with
   |none=>grind| some q=>
     obtain⟨x,f,d⟩:=q;rw [e]at c;refine⟨x,f,d,rfl,?_⟩;cases x with
     |normal=>exact⟨e',l',h',c,h2⟩|exit i=>cases c;exact h2
     |ret=>cases c;exact h2
     |pan v=>cases c;exact h2
 . intro⟨x,f,d,e,h2⟩;rw [e];cases x with
   |normal=>exact h2|exit i=>exact⟨_,_,_,rfl,h2⟩|ret=>exact⟨_,_,_,rfl,h2⟩|pan v=>exact⟨_,_,_,rfl,h2⟩
theorem run_block {id:Nat} {b:Code}:Run E R cx Q (.code (.block id b)::k) .normal l h↔Run E R cx Q (.code b:: .blk id::k) .normal l h:=by
 simp only [Run,aG];constructor
 . intro ⟨e',l',h',a,h2⟩;cases e:aG E R cx b l h with
   |none=>grind| some q=>
     obtain⟨x,f,c⟩:=q;rw [e]at a;refine⟨x,f,c,rfl,?_⟩;cases x with
     |normal=>cases a;exact h2
     | exit i=>
       simp only []at a;cases d:Xc i id with
       |true=>simp_all[Xd,Run,if_true]| false=>
         rw [d]at a;cases a;simp only [Run];rw [if_neg (by grind[Xk])];exact h2
     |ret=>cases a;exact h2
     |pan v=>cases a;exact h2
 . intro⟨x,f,c,e,h2⟩;rw [e];cases x with
   |normal=>exact⟨_,_,_,rfl,h2⟩| exit i=>
     simp only [Run]at h2;simp only [];by_cases d:i=id
     . subst d;rw [if_pos rfl]at h2;rw [Xk];grind
     . rw [if_neg d]at h2;have:Xc i id=false:=(by grind[Xc,id,absurd,Xd]);grind
   |ret=>exact⟨_,_,_,rfl,h2⟩|pan v=>exact⟨_,_,_,rfl,h2⟩
theorem run_scope{b:Code}:Run E R cx Q (.code (.scope b)::k) .normal l h↔Run E R cx Q (.code b::k) .normal l h:=zB
theorem run_blk{id:Nat}:Run E R cx Q (.blk id::k) .normal l h↔Run E R cx Q k .normal l h:=zB
theorem run_exit{id:Nat}:Run E R cx Q (.code (.exit id)::k) .normal l h↔Run E R cx Q k (.exit id) l h:=by simp only [Run,aG];exact iV
theorem run_ret:Run E R cx Q (.code .ret::k) .normal l h↔Run E R cx Q k .ret l h:=by simp only [Run,aG];exact iV
theorem AH{id i:Nat}:Run E R cx Q (.blk id::k) (.exit i) l h↔if i=id then Run E R cx Q k .normal l h else Run E R cx Q k (.exit i) l h:=zB
theorem zL{c:Code}{i:Nat}:Run E R cx Q (.code c::k) (.exit i) l h↔Run E R cx Q k (.exit i) l h:=zB
theorem AM{a os:List Oper}{i:Nat}:Run E R cx Q (.ops a os::k) (.exit i) l h↔Run E R cx Q k (.exit i) l h:=zB
theorem CG{f:Fr}:Run E R cx Q (f::k) .ret l h↔Run E R cx Q k .ret l h:=by cases f<;>exact zB
theorem Db{f:Fr}{v:Value}:Run E R cx Q (f::k) (.pan v) l h↔Run E R cx Q k (.pan v) l h:=by cases f<;>exact zB
theorem run_cond{c:Operand}{a b:Code}:Run E R cx Q (.code (.cond c a b)::k) .normal l h↔ ∃t,l.ev c=.bool t/\if t=true then Run E R cx Q (.code a::k) .normal l h else Run E R cx Q (.code b::k) .normal l h:=by simp only [Run,aG];grind
theorem Dk{id:Nat}{ops:Array Oper}:Run E R cx Q (.code (.region id ops false)::k) .normal l h↔Run E R cx Q (.ops ops.toList ops.toList::k) .normal l h:=by rfl
theorem Ck{a:List Oper}:Run E R cx Q (.ops a []::k) .normal l h↔Run E R cx Q k .normal l h:=by simp only [Run,iG];exact iV
theorem Bj{a os:List Oper}{o:Oper}:Run E R cx Q (.ops a (o::os)::k) .normal l h↔ ∃b,ct a l.regs o=some b/\
 (if b=true then Then (dW E R cx o l h) fun e l' g=>Run E R cx Q (.ops a os::k) e l' g else Run E R cx Q (.ops a os::k) .normal (l.put o.dst (.tuple #[])) h):=by
 simp only [Run,iG];constructor
 . intro ⟨e',l',g,d,c⟩;cases j:ct a l.regs o with
   |none=>grind| some b=>
     rw [j]at d;refine⟨b,rfl,?_⟩;cases b with
     |false=>grind| true=>
       rw [if_pos rfl];simp only []at d;cases m:dW E R cx o l h with
       |none=>grind| some q=>
         obtain⟨x,n,f⟩:=q;rw [m]at d;refine⟨x,n,f,rfl,?_⟩;cases x with
         |normal=>exact⟨e',l',g,d,c⟩|exit i=>cases d;exact c
         |ret=>cases d;exact c
         |pan v=>cases d;exact c
 . intro⟨b,j,c⟩;rw [j];cases b with
   |false=>grind| true=>
     rw [if_pos rfl]at c;obtain⟨x,n,f,m,c⟩:=c;simp only [m];cases x with
     |normal=>exact c|exit i=>exact⟨_,_,_,rfl,c⟩|ret=>exact⟨_,_,_,rfl,c⟩|pan v=>exact⟨_,_,_,rfl,c⟩

theorem run_draw{id:Nat}{ops:Array Oper}{q:Nat}{ps:List (Nat×Nat)}{os:List Oper}(a:E.cut cx.fn=false)(b:bU ops.toList=os)(c:jh E os=some (q,ps)):Run E R cx Q (.code (.region id ops true)::k) .normal l h↔Run E R cx Q (.opsD os q ps os 0 []::k) .normal l h:=by simp only [Run,aG,cond_true,a,cond_false,b,c];grind
theorem run_split{id:Nat}{ops:Array Oper}{q:Nat}{ps:List (Nat×Nat)}{os:List Oper}(a:E.cut cx.fn=true)(b:jT ops.toList (ops.toList.length-1)=true)(hf:tR E ops.toList=false){n:Nat}(c:cutN ops.toList=n)(d:bU (ops.toList.take n)=os)(e:jh E os=some (q,ps))
 (f:Run E R cx Q (.opsD os q ps os 0 []:: .ops ops.toList (ops.toList.drop n)::k) .normal l h):Run E R cx Q (.code (.region id ops true)::k) .normal l h:=by
 obtain⟨o,p,g,i,j,r,s,t,m,u⟩:=f;simp only [Run,aG,cond_true,a,cutD,hf,cond_false,tW,b,c,d,e,i,j];grind
theorem AE{a:List Oper}{q i:Nat}{ps:List (Nat×Nat)}{b:List (Nat×Tch)}:Run E R cx Q (.opsD a q ps [] i b::k) .normal l h↔cB b ps=true/\Run E R cx Q k .normal l h:=by simp only [Run,bN];grind
theorem zS{a os:List Oper}{o:Oper}{q i:Nat}{ps:List (Nat×Nat)}{c:List (Nat×Tch)}:Run E R cx Q (.opsD a q ps (o::os) i c::k) .normal l h↔ ∃b,ct a l.regs o=some b/\
 (if b=true then∃v d,cI E R (l.evD (tmpsOf o.op.operands.toList)) (ey E q i o.op) o h=some (v,d)/\
     Run E R cx Q (.opsD a q ps os (i+1) (ig i c (cH (l.evD (tmpsOf o.op.operands.toList)) (ey E q i o.op) o.op h d))::k) .normal (l.put o.dst v) d
   else Run E R cx Q (.opsD a q ps os (i+1) c::k) .normal (l.put o.dst (.tuple #[])) h):=by
 simp only [Run,bN];grind
end
end Go.Ab

namespace Go.Ab

noncomputable def envOf(a:Tr Func)(b:Tr TypeInfo)(c:List Nat):Env:={fn:=fun f=>a.get f,ty:=fun t=>b.get t,eqok:=fun t=>oe t c}

theorem Al{P:Program}{f:FuncId}{b:Func}(hf:P.funcs[f]? =some b)(e:b.body.isSome=true)(c:(b.name== "runtime.NumGoroutine")=false)(args:Array Value)(w:World):
 (callFunc f args).run P w=.ok (.enter f args) w:=by
 have a:b.body.isNone=false:=by cases h:b.body<;>simp_all
 unfold callFunc;have d:program.run P w=.ok P w:=rfl;simp only [Sem.run_bind,d,Result.andThen_ok,hf,c,a,Bool.false_eq_true,if_false,Sem.run_pure]

theorem eok_of{P:Program}{fns:Tr Func}{tys:Tr TypeInfo}{eqs:List Nat}(h1:fns=Tr.ofList P.funcs.toList)(h2:tys=Tr.ofList P.types.toList)
 (h3:(P.funcs.toList.all fun fn=>fn.body.isNone|| !(fn.name== "runtime.NumGoroutine"))=true) (h4:(eqs.all fun t=>!P.stoodInHeld t&& !P.eqGuardType P.depth t)=true)
 (h5:P.follows .mixedOrders=true):EOk (envOf fns tys eqs) P where
 fn:=by intro f fn h;have h':fns.get f=some fn:=h;rw [h1,Tr.get_ofList]at h';simpa using h'
 call:=by
  intro f fn args w h hb;have h':fns.get f=some fn:=h;rw [h1,Tr.get_ofList]at h';have hm:=zM h';have:=(List.all_eq_true.1 h3) fn hm;refine Al (by simpa using h') hb ?_ args w;cases hn:(fn.name== "runtime.NumGoroutine")with
  |false=>rfl|true=>rw [hn]at this;cases hx:fn.body<;>simp_all
 ty:=by
  intro t i h;have h':tys.get t=some i:=h;rw [h2,Tr.get_ofList]at h';show P.toTables.info? t=some i;have hk:P.types[t]? =some i:=by simpa using h'
  unfold Tables.info?;rw [if_pos (Array.getElem?_eq_some_iff.1 hk).1];exact hk
 eq:=by intro t h;have hm:t∈eqs:=(oa t eqs).1 h;have:=(List.all_eq_true.1 h4) t hm;simp only [Xe,Bool.not_eq_true']at this;exact this
 mixed:=h5
 orc:=by intro g args v h;cases h
noncomputable def rJ(E:Env)(o:Nat->List Value->Option Value):Env:={E with orc:=o}
noncomputable def withCut(E:Env)(c:Nat->Bool):Env:={E with cut:=c}
theorem eok_cut{E:Env}{P:Program}(ok:EOk E P)(c:Nat->Bool):EOk (withCut E c) P where
 fn:=ok.fn
 call:=ok.call
 ty:=ok.ty
 eq:=ok.eq
 mixed:=ok.mixed
 orc:=ok.orc
theorem eok_with{E:Env}{P:Program}(ok:EOk E P){o:Nat->List Value->Option Value}(ho: ∀g args v,o g args=some v->(∃fn,E.fn g=some fn/\fn.body.isSome=true)/\OrcAt P g args v):EOk (rJ E o) P where
 fn:=ok.fn
 call:=ok.call
 ty:=ok.ty
 eq:=ok.eq
 mixed:=ok.mixed
 orc:=ho
end Go.Ab
namespace Go.Ab
open Go.ChangeShapes Go.WideShapes
variable{H:Type}{enc:TypeId×Value->H}{P:Program}
end Go.Ab

namespace Go.Ab

def dU(E:Env)(f:FuncId)(args:List Value)(c:Option (Value×Bool))(h:Hp)(Q:Out->Option (Value×Bool)->Hp->Prop):Prop:= ∃o a b,(lim E).call f args c h=some (o,a,b)/\Q o a b
def Ret(E:Env)(f:FuncId)(args:List Value)(h:Hp)(Q:Value->Hp->Prop):Prop:= ∃v a,(lim E).call f args none h=some (.ret v,none,a)/\Q v a
theorem Ret.mono{E:Env}{f:FuncId}{args:List Value}{h:Hp}{Q d:Value->Hp->Prop}(k: ∀v c,Q v c->d v c)(r:Ret E f args h Q):Ret E f args h d:=by obtain⟨v,c,a,b⟩:=r;exact⟨v,c,a,k v c b⟩
def kL(E:Env)(b:Nat)(args:List Value)(h:Hp)(Q:Out->Hp->Prop):Prop:= ∃o a,jt E (lim E) b args h=some (o,a)/\Q o a

section
variable(E:Env)(cx:Cx)(o:Oper)(l:Loc)(K:Ex->Loc->Hp->Prop)
def fD:Option (dw×Hp)->Prop
 |some (.val v,a)=>K .normal (l.put o.dst v) a|some (.skip,a)=>K .normal (l.put o.dst (.tuple #[])) a| some (.call f c,a)=>dU E f c none a fun x _ e=>match x with
   | .ret v=>K .normal (l.put o.dst v) e| .pan v=>K (.pan v) l e
 | some (.yield b c,a)=>kL E b c a fun x e=>match x with
   | .ret v=>K .normal (l.put o.dst v) e| .pan v=>K (.pan v) l e
 |some (.panic v,a)=>K (.pan v) l a| some (.recov,a)=>cx.round=none/\match l.rc with
   |some (v,false)=>K .normal (({l with rc:=some (v,true)}:Loc).put o.dst v) a
   |_=>K .normal (l.put o.dst .nilIface) a
 |some (.defer d,a)=>cx.round=none/\K .normal (({l with dfs:=d::l.dfs}:Loc).put o.dst (.tuple #[])) a
 |none=>False
end
section
variable{E:Env}{cx:Cx}{o:Oper}{l:Loc}{K:Ex->Loc->Hp->Prop}{h:Hp}
theorem then_step:Then (dW E (lim E) cx o l h) K↔fD E cx o l K (aop E l.ev h o.op):=by
 unfold dW;cases p:aop E l.ev h o.op with
 | none=>
   simp only [fD,c6,oD];exact⟨fun⟨_,_,_,i,_⟩=>(by cases i),fun h=>h.elim⟩
 | some q=>
   obtain⟨m,i⟩:=q;cases m with
   |val v=>exact iV|skip=>exact iV|panic v=>exact iV| call f g=>
     simp only [fD,c6,dU];constructor
     . intro⟨e,l',h',a,b⟩;cases j:(lim E).call f g none i with
       |none=>rw [j]at a;cases a
       | some q=>
         obtain⟨x,n,k⟩:=q;rw [j]at a;cases x<;>(cases a;grind)
     . intro⟨x,n,k,a,b⟩;rw [a];cases x<;>exact⟨_,_,_,rfl,b⟩
   | yield b g=>
     simp only [fD,c6,kL];constructor
     . intro⟨e,l',h',a,c⟩;cases j:jt E (lim E) b g i with
       |none=>rw [j]at a;cases a
       | some q=>
         obtain⟨x,k⟩:=q;rw [j]at a;cases x<;>(cases a;grind)
     . intro⟨x,k,a,c⟩;rw [a];cases x<;>exact⟨_,_,_,rfl,c⟩
   | recov=>
     simp only [fD];cases cx.round with
     |some r=>simp only [];exact⟨fun⟨_,_,_,i,_⟩=>(by cases i),fun h=>(by cases h.1)⟩
     | none=>simp only [true_and];grind[iV]
   | defer d=>
     simp only [fD];cases cx.round with
     |some r=>simp only [];exact⟨fun⟨_,_,_,i,_⟩=>(by cases i),fun h=>(by cases h.1)⟩
     |none=>simp only [true_and];exact iV
theorem zV{v:Value}:fD E cx o l K (some (.val v,h))↔K .normal (l.put o.dst v) h:=zB
theorem yr:fD E cx o l K (some (.skip,h))↔K .normal (l.put o.dst (.tuple #[])) h:=zB
theorem wR{v:Value}:fD E cx o l K (some (.panic v,h))↔K (.pan v) l h:=zB
theorem step_ret{f:FuncId}{args:List Value}{Q:Value->Hp->Prop}(d:Ret E f args h Q)(e: ∀v c,Q v c->K .normal (l.put o.dst v) c):fD E cx o l K (some (.call f args,h)):=by obtain⟨v,c,a,b⟩:=d;exact⟨.ret v,none,c,a,e v c b⟩
end

def pJ(E:Env)(rs:List ResultVar)(Q:Out->Option (Value×Bool)->Hp->Prop):fq
 | .exit _,_,_=>False| .pan v,l,h=> ∃m a,ck (lim E) l.dfs (some v) h=some (m,a)/\match m with
   |some v=>Q (.pan v) l.rc a|none=> ∃b,bH E l.regs a rs=some b/\Q (.ret (ab b)) l.rc a
 | .normal,l,h=> ∃a,ck (lim E) l.dfs none h=some (none,a)/\ ∃b,bH E l.regs a rs=some b/\Q (.ret (ab b)) l.rc a| .ret,l,h=> ∃a,ck (lim E) l.dfs none h=some (none,a)/\ ∃b,bH E l.regs a rs=some b/\Q (.ret (ab b)) l.rc a

theorem enter{E:Env}{f:FuncId}{k:Func}{body:Code}{n:Nat}{rs:List ResultVar}{args:List Value}{o:Option (Value×Bool)}{h:Hp}{Q:Out->Option (Value×Bool)->Hp->Prop}
 (r:E.orc f args=none) (hf:E.fn f=some k) (s:k.body=some body) (t:k.ntmps=n) (p:k.results.toList=rs) (hle:args.length<=n)
 (u:Run E (lim E) ⟨f,n,none⟩ (pJ E rs Q) [.code body] .normal (LL n (dy args) [] o) h):dU E f args o h Q:=by
 obtain⟨e,l,w,x,j⟩:=u;simp only [Run]at j;unfold dU;rw [call_eq];unfold iY;rw [r];simp only [];unfold kH;rw [hf];simp only [];rw [s];simp only [];rw [t,zO hle];simp only [cond_true];rw [args_tab hle];have g:(lim E).code ⟨f,n,none⟩ body ⟨tab n (dy args),[],o⟩ h=some (e,l,w):=by rw [yg];exact x
 rw [g,p];cases e with
 |exit i=>exact j.elim| pan v=>
   obtain⟨m,q,a,b⟩:=j;grind
 |normal=>obtain⟨q,a,y,c,d⟩:=j;grind
 |ret=>obtain⟨q,a,y,c,d⟩:=j;grind
def RetQ(Q:Value->Hp->Prop):Out->Option (Value×Bool)->Hp->Prop
 | .ret v,none,h=>Q v h|_,_,_=>False
theorem ret_of{E:Env}{f:FuncId}{args:List Value}{h:Hp}{Q:Value->Hp->Prop}(hq:dU E f args none h (RetQ Q)):Ret E f args h Q:=by
 obtain⟨o,c,d,a,b⟩:=hq;cases o with
 |pan v=>exact b.elim| ret v=>cases c with
   |none=>exact⟨v,d,a,b⟩|some y=>exact b.elim
theorem aa{E:Env}{f:FuncId}{a:Func}{body:Code}{n:Nat}{rs:List ResultVar}{args:List Value}{h:Hp}{Q:Value->Hp->Prop}
 (c:E.orc f args=none) (hf:E.fn f=some a) (d:a.body=some body) (e:a.ntmps=n) (b:a.results.toList=rs) (hle:args.length<=n)
 (g:Run E (lim E) ⟨f,n,none⟩ (pJ E rs (RetQ Q)) [.code body] .normal (LL n (dy args) [] none) h):Ret E f args h Q:=ret_of (enter c hf d e b hle g)
theorem ret_orc{E:Env}{f:FuncId}{args:List Value}{h:Hp}{v:Value}{Q:Value->Hp->Prop}(a:E.orc f args=some v)(hq:Q v h):Ret E f args h Q:=by refine⟨v,h,?_,hq⟩;rw [call_eq];unfold iY;rw [a]
section
variable{E:Env}{rs:List ResultVar}{Q:Value->Hp->Prop}{n:Nat}{ρ:Nat->Value}{h:Hp}
theorem zj:pJ E rs (RetQ Q) .ret (LL n ρ [] none) h↔ ∃vs,bH E (tab n ρ) h rs=some vs/\Q (ab vs) h:=by
 simp only [pJ,LL,ck];constructor
 . intro⟨h',a,b⟩;cases a;exact b
 . intro b;exact⟨h,rfl,b⟩
theorem Ba:pJ E rs (RetQ Q) .normal (LL n ρ [] none) h↔ ∃vs,bH E (tab n ρ) h rs=some vs/\Q (ab vs) h:=zj
theorem gR{P:List Value->Prop}:(∃vs,bH E (tab n ρ) h []=some vs/\P vs)↔P []:=by simp only [bH];grind
theorem rH{t:Tmp}{P:List Value->Prop}(a:t<n):(∃vs,bH E (tab n ρ) h (.tmp t::rs)=some vs/\P vs)↔ ∃vs,bH E (tab n ρ) h rs=some vs/\P (ρ t::vs):=by simp only [bH,mj,if_pos a];grind
theorem fd{t:Tmp}{ty:TypeId}{v:Value}{P:List Value->Prop}(a:t<n)(b:eK E h ty (ρ t)=some v):(∃vs,bH E (tab n ρ) h (.cell t ty::rs)=some vs/\P vs)↔ ∃vs,bH E (tab n ρ) h rs=some vs/\P (v::vs):=by simp only [bH,mj,if_pos a,b];grind
end
end Go.Ab

namespace Go.Ab

structure Gr(h h':Hp):Prop where
 ok0:h.t.Sized h.n
 ok:h'.t.Sized h'.n
 n:h.n<=h'.n
 get: ∀b,b<h.n->h'.get b=h.get b
 lo: ∀x,x<=h.n->x<=h.lo->x<=h'.lo
theorem Gr.refl{h:Hp}(a:h.t.Sized h.n):Gr h h:=⟨a,a,Xb _,fun _ _=>rfl,fun _ _ h=>h⟩
theorem Gr.trans{a b c:Hp}(x:Gr a b)(y:Gr b c):Gr a c:=
 ⟨x.ok0,y.ok,Xl x.n y.n,fun i d=>(y.get i (Nat.lt_of_lt_of_le d x.n)).trans (x.get i d),fun i e f=>y.lo i (Xl e x.n) (x.lo i e f)⟩
theorem new_ok{h:Hp}(a:h.t.Sized h.n)(x:Blk):(h.new x).t.Sized (h.new x).n:=Tr.sized_push x a
theorem put_ok{h:Hp}(a:h.t.Sized h.n)(b:Nat)(x:Blk):(h.put b x).t.Sized (h.put b x).n:=Tr.sized_set b x a
theorem Gr.new{h:Hp}(a:h.t.Sized h.n)(x:Blk):Gr h (h.new x):=
 ⟨a,new_ok a x,Nat.le_succ _,fun b c=>by rw [h.get_new x a,if_neg (by omega)],fun _ _ h=>h⟩
theorem Gr.put{a h:Hp}(g:Gr a h){b:Nat}(j:a.n<=b)(x:Blk):Gr a (h.put b x):=by
 refine⟨g.ok0,put_ok g.ok b x,g.n,fun i c=>?_,fun i d f=>?_⟩
 . rw [Hp.get_put,if_neg (fun e=>by omega)];exact g.get i c
 . have:=g.lo i d f;show i<=dk b h.lo;grind[dk,Xa]
theorem ik{h:Hp}(a:h.t.Sized h.n){b:Nat}{x:Blk}(e:h.get b=some x):b<h.n:=(a b).1 (by show(h.get b).isSome=true;rw [e];rfl)
theorem Gr.at{h a:Hp}(g:Gr h a){b:Nat}{x:Blk}(e:h.get b=some x):a.get b=some x:=by rw [g.get b (ik g.ok0 e)];exact e
theorem bJ{h:Hp}(a:h.t.Sized h.n){b o n:Nat}{l:List Value}(e:h.load b o n=some l):b<h.n:=by
 unfold Hp.load at e
 split at e
 next c=>exact ik a c
 next=>cases e
theorem Gr.load{h a:Hp}(g:Gr h a){b o n:Nat}{l:List Value}(e:h.load b o n=some l):a.load b o n=some l:=by have:=g.get b (bJ g.ok0 e);grind[Hp.load]
theorem Gr.hlo{h a:Hp}(g:Gr {h with lo:=h.n} a):Xa h.n a.lo=true:=zO (g.lo h.n (Xb _) (Xb _))

def Row(h:Hp)(b:Nat)(l:List Value)(md:Nat):Prop:= ∃t el,h.get b=some (.cells t l.length el md)/\t.Sized l.length/\ ∀i:Nat,t.get i=l[i]?
theorem Row.gr{h d:Hp}(g:Gr h d){b:Nat}{l:List Value}{md:Nat}(r:Row h b l md):Row d b l md:=by obtain⟨t,el,a,b,c⟩:=r;exact⟨t,el,g.at a,b,c⟩
theorem Row.lt{h:Hp}(c:h.t.Sized h.n){b:Nat}{l:List Value}{md:Nat}(r:Row h b l md):b<h.n:=by obtain⟨t,el,a,_,_⟩:=r;exact ik c a
theorem AN{a:Type}{t:Tr a}{l:List a}(b: ∀i:Nat,t.get i=l[i]?): ∀(n o:Nat),o+n<=l.length->t.slice o n=some ((l.drop o).take n)
 |0,o,_=>by simp [Tr.slice]| n+1,o,h=>by simp only [Tr.slice];have:l[o]? =some l[o]:=List.getElem?_eq_getElem (by omega);rw [b o,this,AN b n (o+1) (by omega)];simp only [];congr 1;rw [show List.drop o l=l[o]::List.drop (o+1) l from Xq (by omega)];rfl
theorem Row.load{h:Hp}{b:Nat}{l:List Value}{md:Nat}(r:Row h b l md){o n:Nat}(d:o+n<=l.length):h.load b o n=some ((l.drop o).take n):=by obtain⟨t,el,a,_,c⟩:=r;grind[Hp.load,zO,AN]
theorem Row.load1{h:Hp}{b:Nat}{l:List Value}{md:Nat}(r:Row h b l md){o:Nat}{v:Value}(a:l[o]? =some v):h.load b o 1=some [v]:=by have hlt:=(List.getElem?_eq_some_iff.1 a).1;rw [r.load (by omega)];grind[Xq,Xh]
theorem nH{h:Hp}(a:h.t.Sized h.n)(l:List Value)(el md:Nat):Row (h.new (.cells (Tr.ofList l) l.length el md)) h.n l md:=
 ⟨Tr.ofList l,el,by rw [h.get_new _ a,if_pos rfl],Tr.sized_ofList l,fun i=>Tr.get_ofList l i⟩
def lay(l:List Value)(o:Nat)(vs:List Value):List Value:=l.take o++vs++l.drop (o+vs.length)
theorem pS{l:List Value}{o:Nat}{vs:List Value}(h:o+vs.length<=l.length):(lay l o vs).length=l.length:=by simp [lay];omega
theorem jO{l:List Value}{o:Nat}{vs:List Value}(h:o+vs.length<=l.length)(i:Nat):(lay l o vs)[i]? =if o<=i/\i<o+vs.length then vs[i-o]? else l[i]? :=by
 unfold lay;by_cases a:i<o
 . grind
 grind
theorem Row.store{h:Hp}(g:h.t.Sized h.n){b:Nat}{l:List Value}{md:Nat}(r:Row h b l md)(f:md≠0){o:Nat}{vs:List Value}(e:o+vs.length<=l.length)(j:vs.all iQ=true):
 ∃x,h.store b o vs=some (h.put b x)/\Row (h.put b x) b (lay l o vs) md:=by
 obtain⟨t,el,a,d,c⟩:=r;refine⟨.cells (t.setAll o vs) l.length el md,?_,?_⟩
 . grind[Hp.store,Xc,absurd,Xd,zO]
 . refine⟨t.setAll o vs,el,?_,?_,fun i=>?_⟩
   . rw [Hp.get_put,if_pos ⟨rfl,by rw [a];rfl⟩,pS e]
   . rw [pS e];exact Tr.sized_setAll o vs d
   grind[Tr.get_setAll,jO]
end Go.Ab

namespace Go.Ab

theorem pop_ext{E:Env}{op:Op}{ρ d:Operand->Value}(e: ∀x∈op.operands.toList,ρ x=d x):pop E ρ op=pop E d op:=by
 cases op
 case build t g=>grind[pop,Xf,Op.operands]
 case makeFunc f a b=>
  cases f<;>(try rfl);grind[pop,Array.map_congr_left,Op.operands]
 case slice t x l h m=>
  simp only [pop];have i:=e x (by simp [Op.operands]);have j:l.map ρ=l.map d:=by cases l with|none=>rfl|some y=>simp [e y (by simp [Op.operands])]
  have k:h.map ρ=h.map d:=by cases h with|none=>rfl|some y=>simp [e y (by simp [Op.operands])]
  have n:m.map ρ=m.map d:=by cases m with|none=>rfl|some y=>simp [e y (by simp [Op.operands])]
  grind
 case call c=>
  have o:c.args.toList.map ρ=c.args.toList.map d:=by grind[Xf,Op.operands,Call.operands]
  grind[pop,invoke,builtin,Xn,Op.operands,Call.operands]
 all_goals (try rfl)
 all_goals first
  |(unfold Op.operands at e;simp at e;simp only [pop];simp [e];done)
  |(simp only [pop];done)
  |(cases ‹Fn› <;>simp only [pop];done)

theorem uw{E:Env}{op:Op}{h:Hp}{ρ a:Operand->Value}(e: ∀x∈op.operands.toList,ρ x=a x):aop E ρ h op=aop E a h op:=by
 have d:=pop_ext (E:=E) e;cases op
 case buildSlice t n j=>grind[aop,Xf,Op.operands]
 case makeMap t r=>cases r<;>simp only [aop,d]
 case call c=>
  have i:c.args.toList.map ρ=c.args.toList.map a:=by grind[Xf,Op.operands,Call.operands]
  have k: ∀x∈c.args.toList,ρ x=a x:=by simp_all
  cases g:c.callee with
  | value f=>grind[hf,Op.operands,Call.operands,aop]|invoke r n=>simp only [aop,g]| builtin b=>
    cases b<;>simp only [aop,g,d]<;>(try rfl)
    all_goals grind
 case defer c=>
  have i:c.args.toList.map ρ=c.args.toList.map a:=by grind[Xf,Op.operands,Call.operands]
  grind[hf,Op.operands,Call.operands,aop,invoke,builtin]
 all_goals first
  |(simp only [aop];done)
  |(simp only [aop,d];done)
  |(unfold Op.operands at e;simp at e;simp only [aop,e];done)
theorem touch_ext{op:Op}{ρ a:Operand->Value}(e: ∀x∈op.operands.toList,ρ x=a x):touch ρ op=touch a op:=by
 cases op
 case call c=>grind[touch,Op.operands,Call.operands]
 all_goals first
  |rfl
  |(unfold Op.operands at e;simp at e;simp only [touch,e];done)
  |(simp only [touch];done)
theorem uO(l:Loc)(op:Op): ∀x∈op.operands.toList,l.evD (tmpsOf op.operands.toList) x=l.ev x:=by
 intro x a;cases x with
 | tmp t=>grind[Loc.evD,oa,sW]|_=>rfl

def ki(E:Env)(K:Value->Hp->Prop):Option (dw×Hp)->Prop
 |some (.val v,c)=>K v c|some (.skip,c)=>K (.tuple #[]) c| some (.call f a,c)=>dU E f a none c fun x _ d=>match x with
   | .ret v=>K v d| .pan _=>False
 | some (.yield b a,c)=>kL E b a c fun x d=>match x with
   | .ret v=>K v d| .pan _=>False
 |_=>False
theorem opVal_n{E:Env}{x:Option (dw×Hp)}{K:Value->Hp->Prop}:(∃v e,c6 E (lim E) x=some (.ret v,e)/\K v e)↔ki E K x:=by
 cases x with
 |none=>exact⟨fun⟨_,_,a,_⟩=>(by cases a),fun h=>h.elim⟩
 | some q=>
   obtain⟨g,i⟩:=q;cases g with
   |val v=>exact⟨fun⟨_,_,a,b⟩=>(by cases a;exact b),fun h=>⟨_,_,rfl,h⟩⟩
   |skip=>exact⟨fun⟨_,_,a,b⟩=>(by cases a;exact b),fun h=>⟨_,_,rfl,h⟩⟩
   |panic v=>exact⟨fun⟨_,_,a,_⟩=>(by cases a),fun h=>h.elim⟩
   |recov=>exact⟨fun⟨_,_,a,_⟩=>(by cases a),fun h=>h.elim⟩
   |defer d=>exact⟨fun⟨_,_,a,_⟩=>(by cases a),fun h=>h.elim⟩
   | call f c=>simp only [ki,c6,dU];grind| yield b c=>grind[ki,c6,kL]
theorem stepD_iff{E:Env}{l:Loc}{a:Bool}{o:Oper}{h:Hp}{K:Value->Hp->Prop}:(∃v b,cI E (lim E) (l.evD (tmpsOf o.op.operands.toList)) a o h=some (v,b)/\K v b)↔
 (if a=true then ki E (fun v b=>Xa h.n b.lo=true/\K v {b with lo:=h.lo}) (aop E l.ev {h with lo:=h.n} o.op)else ki E K (aop E l.ev h o.op)):=by
 have e:=uO l o.op;unfold cI;cases a with
 | false=>rw [if_neg (by simp)];simp only [cond_false];rw [uw e,<-opVal_n];grind| true=>rw [if_pos rfl];simp only [cond_true];rw [uw e,<-opVal_n];grind
theorem Dh{op:Op}{ρ a:Operand->Value}{b:Bool}{h c:Hp}(e: ∀x∈op.operands.toList,ρ x=a x):cH ρ b op h c=cH a b op h c:=by unfold cH jK;rw [touch_ext e]
theorem run_opsD{E:Env}{cx:Cx}{Q:fq}{k:List Fr}{l:Loc}{h:Hp}{a os:List Oper}{o:Oper}{q i:Nat}{ps:List (Nat×Nat)}{d:List (Nat×Tch)}:Run E (lim E) cx Q (.opsD a q ps (o::os) i d::k) .normal l h↔ ∃b,ct a l.regs o=some b/\
 (if b =true then(if ey E q i o.op=true then
       ki E (fun v c=>Xa h.n c.lo=true/\Run E (lim E) cx Q (.opsD a q ps os (i+1) (ig i d (cH l.ev true o.op h h))::k) .normal (l.put o.dst v) {c with lo:=h.lo}) (aop E l.ev {h with lo:=h.n} o.op)
     else ki E (fun v c=>Run E (lim E) cx Q (.opsD a q ps os (i+1) (ig i d (cH l.ev false o.op h c))::k) .normal (l.put o.dst v) c) (aop E l.ev h o.op))
   else Run E (lim E) cx Q (.opsD a q ps os (i+1) d::k) .normal (l.put o.dst (.tuple #[])) h):=by
 rw [zS];simp only [Dh (uO l o.op),stepD_iff];cases ey E q i o.op with
 | true=>rfl|false=>exact zB
theorem zm{E:Env}{K:Value->Hp->Prop}{f:FuncId}{args:List Value}{h:Hp}{Q:Value->Hp->Prop}(d:Ret E f args h Q)(e: ∀v c,Q v c->K v c):ki E K (some (.call f args,h)):=by obtain⟨v,c,a,b⟩:=d;exact⟨.ret v,none,c,a,e v c b⟩
end Go.Ab

namespace Go.Ab
noncomputable section
abbrev Opt:=Option (Ex×Loc×Hp)

def getK{a:Type}(t:Tr a):Nat->Option a:=Tr.rec (motive:=fun _=>Nat->Option a) (fun _=>none)
 (fun x _ _ b c i=>Nat.rec (some x) (fun n _=>Bool.rec (c (n/2)) (b (n/2)) (Xc (n%2) 0)) i) t
def setK{a:Type}(t:Tr a):Nat->a->Tr a:=Tr.rec (motive:=fun _=>Nat->a->Tr a) (fun _ _=>.nil)
 (fun y l r b c i x=>Nat.rec (.node x l r) (fun n _=>Bool.rec (.node y l (c (n/2) x)) (.node y (b (n/2) x) r) (Xc (n%2) 0)) i) t
def g9(l:Loc)(d:Option Tmp)(v:Value):Loc:=Option.rec l (fun t=>Loc.mk (setK l.regs t v) l.dfs l.rc) d
def evK(l:Loc)(x:Operand):Value:=Operand.rec (motive:=fun _=>Loc->Value) (fun t l=>Option.rec (.tuple #[]) (fun v=>v) (getK l.regs t)) (fun v _=>Bool.rec poison v (cR v))
 (fun g _=>Bool.rec poison (.pointer (some ⟨g,0,none⟩)) (Xs g 16)) (fun f _=>.func (.func f) #[] #[]) x l
def exK(e:Ex):(Loc->Hp->Opt)->(Ex->Loc->Hp->Opt)->Loc->Hp->Opt:=Ex.rec (motive:=fun _=>(Loc->Hp->Opt)->(Ex->Loc->Hp->Opt)->Loc->Hp->Opt)
 (fun b _ l h=>b l h) (fun id _ a l h=>a (.exit id) l h) (fun _ a l h=>a .ret l h) (fun v _ a l h=>a (.pan v) l h) e
def dS(x:Opt)(a:Loc->Hp->Opt)(b:Ex->Loc->Hp->Opt):Opt:=Option.rec none (fun q=>Prod.rec (fun e c=>Prod.rec (fun l h=>exK e a b l h) c) q) x
def asInt:Value->Option (IntKind×Int)
 | .int k n=>some (k,n)|_=>none
abbrev BM:=IntKind->Int->IntKind->Int->Option Value->Option Value
def arK(f:IntKind->Int->Int->Option Value):BM:=fun k m a n _=>Bool.rec none (f k m n) (i6 k a)
def binI(op:BinOp):BM:=BinOp.rec (motive:=fun _=>BM)
 (add:=arK fun k x y=>some (.int k (ag k (x+y)))) (sub:=arK fun k x y=>some (.int k (ag k (x-y)))) (mul:=arK fun k x y=>some (.int k (ag k (x*y))))
 (quo:=fun _ _ _ _ s=>s) (rem:=fun _ _ _ _ s=>s) (and:=fun _ _ _ _ s=>s) (or:=fun _ _ _ _ s=>s) (xor:=fun _ _ _ _ s=>s) (andNot:=fun _ _ _ _ s=>s) (shl:=fun _ _ _ _ s=>s) (shr:=fun _ _ _ _ s=>s)
 (eql:=arK fun _ x y=>some (.bool (iI x y))) (neq:=arK fun _ x y=>some (.bool (!iI x y))) (lss:=arK fun _ x y=>some (.bool (mP x y))) (leq:=arK fun _ x y=>some (.bool (!mP y x)))
 (gtr:=arK fun _ x y=>some (.bool (mP y x))) (geq:=arK fun _ x y=>some (.bool (!mP x y))) op
def binK(E:Env)(op:BinOp)(t:TypeId)(x y:Operand)(a b:Value):Option Value:=
 Option.rec (aZ E op t x y a b) (fun p=>Option.rec (aZ E op t x y a b) (fun q=>binI op p.1 p.2 q.1 q.2 (aZ E op t x y a b)) (asInt b)) (asInt a)
abbrev OpM:=Env->Rec->Cx->Option Tmp->Loc->Hp->(Loc->Hp->Opt)->(Ex->Loc->Hp->Opt)->Opt
def jZ(r:Option Value)(d:Option Tmp)(l:Loc)(h:Hp)(a:Loc->Hp->Opt):Opt:=Option.rec none (fun v=>a (g9 l d v) h) r
def retHK(r:Option (Hp×Value))(d:Option Tmp)(l:Loc)(a:Loc->Hp->Opt):Opt:=Option.rec none (fun p=>Prod.rec (fun h v=>a (g9 l d v) h) p) r
def uQ(r:Option Hp)(d:Option Tmp)(l:Loc)(a:Loc->Hp->Opt):Opt:=Option.rec none (fun h=>a (g9 l d (.tuple #[])) h) r
def dm(op:Op):OpM:=fun E R a d l h b c=>dS (dW E R a ⟨d,op,0,"",#[],none⟩ l h) b c
def outK(o:Out):Option Tmp->Loc->Hp->(Loc->Hp->Opt)->(Ex->Loc->Hp->Opt)->Opt:=Out.rec (motive:=fun _=>Option Tmp->Loc->Hp->(Loc->Hp->Opt)->(Ex->Loc->Hp->Opt)->Opt)
 (fun v d l h a _=>a (g9 l d v) h) (fun v _ l h _ b=>b (.pan v) l h) o
def resK(r:Option (Out×Option (Value×Bool)×Hp))(d:Option Tmp)(l:Loc)(a:Loc->Hp->Opt)(b:Ex->Loc->Hp->Opt):Opt:=Option.rec none (fun q=>Prod.rec (fun o c=>Prod.rec (fun _ h=>outK o d l h a b) c) q) r
def asFn:Value->Option (FuncId×Array Value×Array Value)
 | .func (.func g) a b=>some (g,a,b)|_=>none
def callK(c:Call):OpM:=fun E R e d l h a b=>Callee.rec (motive:=fun _=>Opt)
 (fun f=>Option.rec (dm (.call c) E R e d l h a b) (fun p=>resK (R.call p.1 (p.2.1.toList++c.args.toList.map (evK l)++p.2.2.toList) none h) d l a b) (asFn (evK l f)))
 (fun _ _=>dm (.call c) E R e d l h a b) (fun _=>dm (.call c) E R e d l h a b) c.callee
def opK(op:Op):OpM:=Op.rec (motive:=fun _=>OpM)
 (move:=fun x _ _ _ d l h j _=>j (g9 l d (evK l x)) h)
 (assign:=fun x _ _ _ d l h j _=>j (g9 l d (evK l x)) h)
 (pick:=fun c a b=>dm (.pick c a b))
 (alloc:=fun e=>dm (.alloc e))
 (box:=fun e v=>dm (.box e v))
 (build:=fun t p=>dm (.build t p))
 (buildSlice:=fun t n p=>dm (.buildSlice t n p))
 (insert:=fun t m k v=>dm (.insert t m k v))
 (load:=fun t a E _ _ d l h j _=>jZ (eK E h t (evK l a)) d l h j)
 (store:=fun t a v E _ _ d l h j _=>uQ (jm E h t (evK l a) (evK l v)) d l j)
 (ready:=fun g=>dm (.ready g))
 (waits:=fun g=>dm (.waits g))
 (nilCheck:=fun x=>dm (.nilCheck x))
 (binOp:=fun op t x y u E _ _ d l h j _=>jZ (binK E op t x y (evK l x) (evK l y)) d l h j)
 (unOp:=fun op t x E _ _ d l h j _=>jZ (unP op (evK l x)) d l h j)
 (convert:=fun s t x=>dm (.convert s t x))
 (sliceToArrayPointer:=fun t x=>dm (.sliceToArrayPointer t x))
 (makeInterface:=fun t x=>dm (.makeInterface t x))
 (makeFunc:=fun f a b=>dm (.makeFunc f a b))
 (makeMap:=fun t r=>dm (.makeMap t r))
 (makeChan:=fun t s=>dm (.makeChan t s))
 (makeSlice:=fun t a c=>dm (.makeSlice t a c))
 (slice:=fun t x a b c=>dm (.slice t x a b c))
 (fieldAddr:=fun s x i E _ _ d l h j _=>jZ (aB E s (evK l x) i) d l h j)
 (field:=fun t x i E _ _ d l h j _=>jZ (bF E t (evK l x) i) d l h j)
 (indexAddr:=fun t x i E _ _ d l h j _=>jZ (eP E t (evK l x) (evK l i)) d l h j)
 (index:=fun t x i E _ _ d l h j _=>jZ (kQ E t (evK l x) (evK l i)) d l h j)
 (lookup:=fun t m k o E _ _ d l h j _=>jZ (dC E h t (evK l m) (evK l k) o) d l h j)
 (mapUpdate:=fun t m k v E _ _ d l h j _=>uQ (dY E h t (evK l m) (evK l k) (evK l v)) d l j)
 (mapEntry:=fun t m k E _ _ d l h j _=>retHK (jM E h t (evK l m) (evK l k)) d l j)
 (entryStore:=fun t m s v=>dm (.entryStore t m s v))
 (range:=fun t x=>dm (.range t x))
 (next:=fun i s=>dm (.next i s))
 (entry:=fun i=>dm (.entry i))
 (typeAssert:=fun x s t o=>dm (.typeAssert x s t o))
 (extract:=fun t i=>dm (.extract t i))
 (call:=fun c=>callK c)
 (go:=fun c=>dm (.go c))
 (defer:=fun c=>dm (.defer c))
 (panic:=fun x=>dm (.panic x))
 (send:=fun c x=>dm (.send c x))
 (recv:=fun t c o=>dm (.recv t c o))
 (select:=fun q b=>dm (.select q b)) op
def rK(ops:List Oper)(l:Loc)(o:Oper):Option Bool:=Option.rec (some true) (fun _=>ct ops l.regs o) o.guard
def opsK(E:Env)(R:Rec)(cx:Cx)(ops:List Oper)(c:Loc->Hp->Opt)(d:Ex->Loc->Hp->Opt)(os:List Oper):Loc->Hp->Opt:=List.rec (motive:=fun _=>Loc->Hp->Opt) c
 (fun o _ a l h=>Option.rec none (fun b=>Bool.rec (a (g9 l o.dst (.tuple #[])) h) (opK o.op E R cx o.dst l h a d) b) (rK ops l o)) os
def rM(op:Op):Bool:=Op.rec (motive:=fun _=>Bool)
 (move:=fun _=>true) (assign:=fun _=>true) (pick:=fun _ _ _=>false) (alloc:=fun _=>false) (box:=fun _ _=>false) (build:=fun _ _=>false) (buildSlice:=fun _ _ _=>false)
 (insert:=fun _ _ _ _=>false) (load:=fun _ _=>true) (store:=fun _ _ _=>true) (ready:=fun _=>false) (waits:=fun _=>false) (nilCheck:=fun _=>false) (binOp:=fun _ _ _ _ _=>true)
 (unOp:=fun _ _ _=>true) (convert:=fun _ _ _=>false) (sliceToArrayPointer:=fun _ _=>false) (makeInterface:=fun _ _=>false) (makeFunc:=fun _ _ _=>false) (makeMap:=fun _ _=>false)
 (makeChan:=fun _ _=>false) (makeSlice:=fun _ _ _=>false) (slice:=fun _ _ _ _ _=>false) (fieldAddr:=fun _ _ _=>true) (field:=fun _ _ _=>true) (indexAddr:=fun _ _ _=>true) (index:=fun _ _ _=>true)
 (lookup:=fun _ _ _ _=>true) (mapUpdate:=fun _ _ _ _=>true) (mapEntry:=fun _ _ _=>true) (entryStore:=fun _ _ _ _=>false) (range:=fun _ _=>false) (next:=fun _ _=>false) (entry:=fun _=>false)
 (typeAssert:=fun _ _ _ _=>false) (extract:=fun _ _=>false) (call:=fun _=>false) (go:=fun _=>false) (defer:=fun _=>false) (panic:=fun _=>false) (send:=fun _ _=>false) (recv:=fun _ _ _=>false)
 (select:=fun _ _=>false) op
def rU(E:Env)(q i:Nat)(op:Op):Bool:=Bool.rec (Bool.rec false (Xa 3 (cls E op)) (Nat.testBit q i)) false (Xc q 0)
def outDK(o:Out):(Value->Hp->Opt)->Hp->Opt:=Out.rec (motive:=fun _=>(Value->Hp->Opt)->Hp->Opt) (fun v k h=>k v h) (fun _ _ _=>none) o
def resDK(r:Option (Out×Option (Value×Bool)×Hp))(k:Value->Hp->Opt):Opt:=Option.rec none (fun q=>Prod.rec (fun o a=>Prod.rec (fun _ h=>outDK o k h) a) q) r
def lG(E:Env)(R:Rec)(a:Bool)(o:Oper)(l:Loc)(h:Hp)(k:Value->Hp->Opt):Opt:=Option.rec none (fun p=>k p.1 p.2) (cI E R l.ev a o h)
def wI(h:Hp)(k:Value->Hp->Opt)(v:Value)(a:Hp):Opt:=Bool.rec none (k v {a with lo:=h.lo}) (Xa h.n a.lo)
def callDK(E:Env)(R:Rec)(a:Bool)(o:Oper)(c:Call)(l:Loc)(h:Hp)(k:Value->Hp->Opt):Opt:=Callee.rec (motive:=fun _=>Opt)
 (fun f=>Option.rec (lG E R a o l h k) (fun p=>Bool.rec (resDK (R.call p.1 (p.2.1.toList++c.args.toList.map (evK l)++p.2.2.toList) none h) k)
   (resDK (R.call p.1 (p.2.1.toList++c.args.toList.map (evK l)++p.2.2.toList) none {h with lo:=h.n}) (wI h k)) a) (asFn (evK l f)))
 (fun _ _=>lG E R a o l h k) (fun _=>lG E R a o l h k) c.callee
def asCall(op:Op):Option Call:=match op with
 | .call c=>some c|_=>none
def xU(E:Env)(R:Rec)(a:Bool)(o:Oper)(l:Loc)(h:Hp)(k:Value->Hp->Opt):Opt:=Option.rec (lG E R a o l h k) (fun c=>callDK E R a o c l h k) (asCall o.op)
def xq(l:Loc)(op:Op):Option Tch:=match touch (l.evD (tmpsOf op.operands.toList)) op with
 |none=>none|some b=>some (.blk b)
abbrev DM:=Nat->Loc->Hp->List (Nat×Tch)->Opt
def xm (E:Env) (R:Rec) (cx:Cx) (q:Nat) (o:Oper) (b:DM) (i:Nat) (l:Loc) (h:Hp) (c:List (Nat×Tch)):Opt:=
 Bool.rec (xU E R (rU E q i o.op) o l h fun v a=>b (i+1) (g9 l o.dst v) a (ig i c (cH (l.evD (tmpsOf o.op.operands.toList)) (rU E q i o.op) o.op h a)))
  (Bool.rec (opK o.op E R cx o.dst l h (fun d a=>b (i+1) d a (ig i c (xq l o.op))) (fun _ _ _=>none))
    (lG E R true o l h fun v a=>b (i+1) (g9 l o.dst v) a (ig i c (xq l o.op))) (rU E q i o.op)) (rM o.op)
def pV(E:Env)(R:Rec)(cx:Cx)(ops:List Oper)(q:Nat)(a:DM)(os:List Oper):DM:=List.rec (motive:=fun _=>DM) a
 (fun o _ c i l h d=>Option.rec none (fun b=>Bool.rec (c (i+1) (g9 l o.dst (.tuple #[])) h d) (xm E R cx q o c i l h d) b) (rK ops l o)) os
def drawKo(E:Env)(R:Rec)(cx:Cx)(ops:List Oper)(l:Loc)(h:Hp)(a:Loc->Hp->Opt):Opt:=
 Option.rec none (fun p=>pV E R cx ops p.1 (fun _ l h b=>Bool.rec none (a l h) (cB b p.2)) ops 0 l h []) (jh E ops)
def drawK(E:Env)(R:Rec)(cx:Cx)(ops:List Oper)(l:Loc)(h:Hp)(a:Loc->Hp->Opt):Opt:=drawKo E R cx (bU ops) l h a

abbrev CodeM:=Cx->Code->Loc->Hp->(Loc->Hp->Opt)->(Ex->Loc->Hp->Opt)->Opt
def asBool:Value->Option Bool
 | .bool b=>some b|_=>none
def blkK(e:Ex):Nat->(Loc->Hp->Opt)->(Ex->Loc->Hp->Opt)->Loc->Hp->Opt:=Ex.rec (motive:=fun _=>Nat->(Loc->Hp->Opt)->(Ex->Loc->Hp->Opt)->Loc->Hp->Opt)
 (fun _ b _ l h=>b l h) (fun i id b a l h=>Bool.rec (a (.exit i) l h) (b l h) (Xc i id)) (fun _ _ a l h=>a .ret l h) (fun v _ _ a l h=>a (.pan v) l h) e
def oN(E:Env)(R:Rec)(M:CodeM)(cx:Cx)(c:Code):Loc->Hp->(Loc->Hp->Opt)->(Ex->Loc->Hp->Opt)->Opt:=Code.rec (motive:=fun _=>Loc->Hp->(Loc->Hp->Opt)->(Ex->Loc->Hp->Opt)->Opt)
 (skip:=fun l h a _=>a l h)
 (region:=fun _ g k l h a d=>Bool.rec (opsK E R cx g.toList a d g.toList l h) (Bool.rec (drawK E R cx g.toList l h a) (dS (cutD E R cx g.toList l h) a d) (E.cut cx.fn)) k)
 (seq:=fun _ _ i j l h a d=>i l h (fun l h=>j l h a d) d)
 (cond:=fun c _ _ i j l h a d=>Option.rec none (fun t=>Bool.rec (j l h a d) (i l h a d) t) (asBool (evK l c)))
 (block:=fun id _ m l h a d=>m l h a (fun e l h=>blkK e id a d l h))
 (loop:=fun b m l h a d=>m l h (fun l h=>M cx (.loop b) l h a d) d)
 (rangeFunc:=fun f p o n _ _ l h a d=>dS (iR R cx (evK l f) p o n l h) a d)
 (exit:=fun id l h _ d=>d (.exit id) l h)
 (scope:=fun _ m l h a d=>m l h a d)
 (label:=fun _ l h a _=>a l h)
 (goto:=fun _ _ _ _ _=>none)
 (ret:=fun l h _ d=>d .ret l h)
 (refuse:=fun _ _ _ _ _=>none) c
abbrev pu:=Option (Out×Option (Value×Bool)×Hp)
def wz(E:Env)(R:Rec)(b:Func)(l:Loc)(c:Hp):pu:=match ck R l.dfs none c with
 | some (none,a)=>match bH E l.regs a b.results.toList with
   |none=>none|some d=>some (.ret (ab d),l.rc,a)
 |_=>none
def doneK(E:Env)(R:Rec)(a:Func)(l:Loc)(h:Hp):pu:=List.rec (motive:=fun _=>pu)
 (Option.rec none (fun b=>some (.ret (ab b),l.rc,h)) (bH E l.regs h a.results.toList)) (fun _ _ _=>wz E R a l h) l.dfs
def slowPan(E:Env)(R:Rec)(b:Func)(v:Value)(l:Loc)(c:Hp):pu:=match ck R l.dfs (some v) c with
 |none=>none|some (some v,a)=>some (.pan v,l.rc,a)| some (none,a)=>match bH E l.regs a b.results.toList with
   |none=>none|some d=>some (.ret (ab d),l.rc,a)
def exLeave(e:Ex):Env->Rec->Func->Loc->Hp->pu:=Ex.rec (motive:=fun _=>Env->Rec->Func->Loc->Hp->pu) doneK (fun _ _ _ _ _ _=>none) doneK (fun v E R a l h=>slowPan E R a v l h) e
def leaveK(E:Env)(R:Rec)(a:Func)(r:Opt):pu:=Option.rec none (fun q=>Prod.rec (fun e b=>Prod.rec (fun l h=>exLeave e E R a l h) b) q) r
def wX(E:Env)(R:Rec)(f:FuncId)(args:List Value)(b:Option (Value×Bool))(h:Hp)(a:Func)(body:Code):pu:=
 Bool.rec none (leaveK E R a (R.code ⟨f,a.ntmps,none⟩ body ⟨(Tr.blank (.tuple #[]) a.ntmps a.ntmps).setAll 0 args,[],b⟩ h)) (Xa args.length a.ntmps)
def callBK(E:Env)(R:Rec)(f:FuncId)(args:List Value)(c:Option (Value×Bool))(h:Hp):pu:=
 Option.rec none (fun b=>Option.rec none (fun a=>wX E R f args c h b a) b.body) (E.fn f)
def wS(E:Env)(R:Rec)(f:FuncId)(args:List Value)(a:Option (Value×Bool))(h:Hp):pu:=
 Option.rec (callBK E R f args a h) (fun v=>Option.rec (some (.ret v,none,h)) (fun _=>none) a) (E.orc f args)
structure RK where
 call:FuncId->List Value->Option (Value×Bool)->Hp->pu
 code:CodeM
def RK.rec'(K:RK):Rec:=⟨K.call,fun a c l h=>K.code a c l h (fun l h=>some (.normal,l,h)) (fun e l h=>some (e,l,h))⟩
def botK:RK:=⟨fun _ _ _ _=>none,fun _ _ _ _ _ _=>none⟩
def nextRK(E:Env)(K:RK):RK:=⟨fun f a b h=>wS E K.rec' f a b h,fun d c l h e g=>oN E K.rec' K.code d c l h e g⟩
def runK(E:Env)(n:Nat):RK:=Nat.rec botK (fun _ K=>nextRK E K) n
def envK(a:Tr Func)(b:Tr TypeInfo)(c:List Nat):Env:={fn:=fun f=>getK a f,ty:=fun t=>getK b t,eqok:=fun t=>oe t c}
end
end Go.Ab

namespace Go.Ab
noncomputable section
theorem getK_eq{a:Type}(t:Tr a)(i:Nat):getK t i=t.get i:=rfl
theorem setK_eq{a:Type}(t:Tr a)(i:Nat)(x:a):setK t i x=t.set i x:=rfl

theorem nA(l:Loc)(d:Option Tmp)(v:Value):g9 l d v=l.put d v:=by
 cases d with
 |none=>rfl|some t=>show Loc.mk (setK l.regs t v) l.dfs l.rc=_;rw [setK_eq];rfl
theorem gM(l:Loc):evK l=l.ev:=by
 funext x;cases x with
 | tmp t=>
   show Option.rec (motive:=fun _=>Value) _ _ (getK l.regs t)=_;rw [getK_eq];simp only [Loc.ev];cases l.regs.get t<;>rfl
 |const v=>simp only [Loc.ev];show Bool.rec (motive:=fun _=>Value) poison v (cR v)=_;cases cR v<;>rfl
 |global g=>simp only [Loc.ev];show Bool.rec (motive:=fun _=>Value) poison _ (Xs g 16)=_;cases Xs g 16<;>rfl
 |func f=>rfl

theorem bind2_id(x:Opt):dS x (fun l h=>some (.normal,l,h)) (fun e l h=>some (e,l,h))=x:=by
 cases x with
 |none=>rfl|some q=>obtain⟨e,l,h⟩:=q;cases e<;>rfl
theorem sP(x:Opt)(c:Loc->Hp->Opt)(d:Ex->Loc->Hp->Opt)(f:Loc->Hp->Opt)(a:Ex->Loc->Hp->Opt)(b: ∀e l h,e≠ .normal->d e l h=a e l h):
 dS x (fun l h=>dS (c l h) f a) d=dS (match x with
  |some (.normal,l,h)=>c l h|r=>r) f a:=by
 cases x with
 |none=>rfl| some q=>
   obtain⟨e,l,h⟩:=q;cases e with
   |normal=>rfl|exit i=>exact b _ _ _ (by simp)|ret=>exact b _ _ _ (by simp)|pan v=>exact b _ _ _ (by simp)

theorem binK_eq(E:Env)(op:BinOp)(t:TypeId)(x y:Operand)(a b:Value):binK E op t x y a b=aZ E op t x y a b:=by
 cases a<;>(try rfl);cases b<;>(try rfl);rename_i k m c n;cases op<;>(try rfl)
 all_goals (show Bool.rec (motive:=fun _=>Option Value) none _ (i6 k c)=(bif i6 k c then _ else none);cases i6 k c<;>rfl)

theorem retK_eq(r:Option Value)(o:Oper)(l:Loc)(h:Hp)(E:Env)(R:Rec)(a:Loc->Hp->Opt)(b:Ex->Loc->Hp->Opt):jZ r o.dst l h a=dS (oD o l (c6 E R (cG h r))) a b:=by
 cases r with
 |none=>rfl|some v=>show a (g9 l o.dst v) h=a (l.put o.dst v) h;rw [nA]
theorem retHK_eq(r:Option (Hp×Value))(o:Oper)(l:Loc)(E:Env)(R:Rec)(a:Loc->Hp->Opt)(b:Ex->Loc->Hp->Opt):retHK r o.dst l a=dS (oD o l (c6 E R (cU r))) a b:=by
 cases r with
 |none=>rfl|some p=>obtain⟨h,v⟩:=p;show a (g9 l o.dst v) h=a (l.put o.dst v) h;rw [nA]
theorem retUK_eq(r:Option Hp)(o:Oper)(l:Loc)(E:Env)(R:Rec)(a:Loc->Hp->Opt)(b:Ex->Loc->Hp->Opt):uQ r o.dst l a=dS (oD o l (c6 E R (fj r))) a b:=by
 cases r with
 |none=>rfl|some h=>show a (g9 l o.dst (.tuple #[])) h=a (l.put o.dst (.tuple #[])) h;rw [nA]
theorem resK_eq(R:Rec)(g:FuncId)(args:List Value)(o:Oper)(l:Loc)(h:Hp)(E:Env)(a:Loc->Hp->Opt)(b:Ex->Loc->Hp->Opt):
 resK (R.call g args none h) o.dst l a b=dS (oD o l (c6 E R (some (.call g args,h)))) a b:=by
 simp only [c6];cases R.call g args none h with
 |none=>rfl| some q=>
   obtain⟨x,d,c⟩:=q;cases x with
   |ret v=>show a (g9 l o.dst v) c=a (l.put o.dst v) c;rw [nA]|pan v=>rfl
theorem mG{E:Env}{R:Rec}{cx:Cx}{o:Oper}{l:Loc}{h:Hp}{x:Option (dw×Hp)}(b:aop E l.ev h o.op=x)(c: ∀a,x≠some (.recov,a))(e: ∀d a,x≠some (.defer d,a)):dW E R cx o l h=oD o l (c6 E R x):=by
 unfold dW;rw [b]
 split
 . exact absurd rfl (c _)
 . exact absurd rfl (e _ _)
 . rfl
theorem vp{h:Hp}{r:Option Value}:(∀a,cG h r≠some (.recov,a))/\ ∀d a,cG h r≠some (.defer d,a):=by cases r<;>exact⟨by intros;simp [cG],by intros;simp [cG]⟩
theorem vJ{r:Option (Hp×Value)}:(∀a,cU r≠some (.recov,a))/\ ∀d a,cU r≠some (.defer d,a):=by cases r<;>exact⟨by intros;simp [cU],by intros;simp [cU]⟩
theorem vG{r:Option Hp}:(∀a,fj r≠some (.recov,a))/\ ∀d a,fj r≠some (.defer d,a):=by cases r<;>exact⟨by intros;simp [fj],by intros;simp [fj]⟩
theorem opK_eq(E:Env)(R:Rec)(cx:Cx)(o:Oper)(l:Loc)(h:Hp)(q:Loc->Hp->Opt)(s:Ex->Loc->Hp->Opt):opK o.op E R cx o.dst l h q s=dS (dW E R cx o l h) q s:=by
 have w: ∀r,aop E l.ev h o.op=cG h r->jZ r o.dst l h q=dS (dW E R cx o l h) q s:=fun r A=>by rw [mG A vp.1 vp.2];exact retK_eq r o l h E R q s
 have B: ∀r,aop E l.ev h o.op=cU r->retHK r o.dst l q=dS (dW E R cx o l h) q s:=fun r A=>by rw [mG A vJ.1 vJ.2];exact retHK_eq r o l E R q s
 have C: ∀r,aop E l.ev h o.op=fj r->uQ r o.dst l q=dS (dW E R cx o l h) q s:=fun r A=>by rw [mG A vG.1 vG.2];exact retUK_eq r o l E R q s
 obtain⟨j,op,D,pos,z,guard⟩:=o;simp only []at w B C⊢;cases op
 case move x=>have:=w (some (l.ev x)) rfl;rw [<-this];show q (g9 l j (evK l x)) h=q (g9 l j (l.ev x)) h;rw [gM]
 case assign x=>have:=w (some (l.ev x)) rfl;rw [<-this];show q (g9 l j (evK l x)) h=q (g9 l j (l.ev x)) h;rw [gM]
 case load t a=>rw [<-w _ rfl];show jZ (eK E h t (evK l a)) j l h q=_;rw [gM]
 case store t a v=>rw [<-C _ rfl];show uQ (jm E h t (evK l a) (evK l v)) j l q=_;rw [gM]
 case binOp b t x y u=>rw [<-w (aZ E b t x y (l.ev x) (l.ev y)) rfl];show jZ (binK E b t x y (evK l x) (evK l y)) j l h q=_;rw [gM,binK_eq]
 case unOp b t x=>rw [<-w (unP b (l.ev x)) rfl];show jZ (unP b (evK l x)) j l h q=_;rw [gM]
 case fieldAddr t x i=>rw [<-w (aB E t (l.ev x) i) rfl];show jZ (aB E t (evK l x) i) j l h q=_;rw [gM]
 case field t x i=>rw [<-w (bF E t (l.ev x) i) rfl];show jZ (bF E t (evK l x) i) j l h q=_;rw [gM]
 case indexAddr t x i=>rw [<-w (eP E t (l.ev x) (l.ev i)) rfl];show jZ (eP E t (evK l x) (evK l i)) j l h q=_;rw [gM]
 case index t x i=>rw [<-w (kQ E t (l.ev x) (l.ev i)) rfl];show jZ (kQ E t (evK l x) (evK l i)) j l h q=_;rw [gM]
 case lookup t m k b=>rw [<-w _ rfl];show jZ (dC E h t (evK l m) (evK l k) b) j l h q=_;rw [gM]
 case mapUpdate t m k v=>rw [<-C _ rfl];show uQ (dY E h t (evK l m) (evK l k) (evK l v)) j l q=_;rw [gM]
 case mapEntry t m k=>rw [<-B _ rfl];show retHK (jM E h t (evK l m) (evK l k)) j l q=_;rw [gM]
 case call c=>
  show callK c E R cx j l h q s=_;unfold callK;cases F:c.callee with
  |invoke r n=>rfl|builtin b=>rfl| value f=>
    show Option.rec (motive:=fun _=>Opt) (dm (.call c) E R cx j l h q s) _ (asFn (evK l f))=_;rw [gM];cases hf:asFn (l.ev f)with
    |none=>rfl| some p=>
      obtain⟨g,a,b⟩:=p;have B:l.ev f=.func (.func g) a b:=by
       unfold asFn at hf
       split at hf
       . rename_i G;cases hf;exact G
       . cases hf
      have A:aop E l.ev h (.call c)=some (.call g (a.toList++c.args.toList.map l.ev++b.toList),h):=(by simp only [aop,F,B,target]);rw [mG (o:=⟨j,.call c,D,pos,z,guard⟩) A (by intro H e;cases e) (by intro d H e;cases e)];exact resK_eq R g _ ⟨j,.call c,D,pos,z,guard⟩ l h E q s
 all_goals rfl

theorem yC(ops:List Oper)(l:Loc)(o:Oper):rK ops l o=ct ops l.regs o:=by
 unfold rK;cases a:o.guard with
 |none=>unfold ct;rw [a]|some q=>rfl
theorem opsK_eq(E:Env)(R:Rec)(cx:Cx)(ops:List Oper)(c:Loc->Hp->Opt)(a:Ex->Loc->Hp->Opt): ∀(os:List Oper) (l:Loc) (h:Hp),opsK E R cx ops c a os l h=dS (iG E R cx ops os l h) c a
 | [],l,h=>rfl| o ::os,l,h=>by
   have d:=opsK_eq E R cx ops c a os;show Option.rec (motive:=fun _=>Opt) none (fun b=>Bool.rec (opsK E R cx ops c a os (g9 l o.dst (.tuple #[])) h) (opK o.op E R cx o.dst l h (opsK E R cx ops c a os) a) b) (rK ops l o)=_;rw [yC];simp only [iG];cases ct ops l.regs o with
   |none=>rfl| some b=>
     cases b with
     |false=>show opsK E R cx ops c a os (g9 l o.dst (.tuple #[])) h=_;rw [d,nA]| true=>
       show opK o.op E R cx o.dst l h (opsK E R cx ops c a os) a=_;rw [opK_eq,show opsK E R cx ops c a os=fun l h=>dS (iG E R cx ops os l h) c a from funext fun l=>funext fun h=>d l h];rw [sP _ _ _ _ _ (fun _ _ _ _=>rfl)];simp only [];cases dW E R cx o l h with
       |none=>rfl|some q=>obtain⟨e,f,g⟩:=q;cases e<;>rfl

end
end Go.Ab

namespace Go.Ab
noncomputable section

theorem ze(E:Env)(R:Rec)(l:Loc)(a:Bool)(o:Oper)(h:Hp):cI E R (l.evD (tmpsOf o.op.operands.toList)) a o h=cI E R l.ev a o h:=by unfold cI;rw [uw (uO l o.op),uw (uO l o.op)]
theorem fast_step{E:Env}{R:Rec}{cx:Cx}{o:Oper}{l:Loc}{h:Hp}(hf:rM o.op=true){K:Value->Hp->Opt}:
 dS (dW E R cx o l h) (fun l' a=>none) (fun _ _ _=>none)=none/\
 ∀ c:Loc->Hp->Opt,dS (dW E R cx o l h) c (fun _ _ _=>none)=(match cI E R l.ev false o h with
   |none=>none|some (v,a)=>c (l.put o.dst v) a):=by
 have e: ∀x,aop E l.ev h o.op=x->((∃f r,x=cG f r)\/(∃r,x=cU r)\/ ∃r,x=fj r)-> ∀c:Loc->Hp->Opt,dS (dW E R cx o l h) c (fun _ _ _=>none)=(match cI E R l.ev false o h with
  |none=>none|some (v,a)=>c (l.put o.dst v) a):=by
  intro x i j c;have k:(∀a,x≠some (.recov,a))/\ ∀d a,x≠some (.defer d,a):=by
   rcases j with⟨f,r,rfl⟩|⟨r,rfl⟩|⟨r,rfl⟩
   . exact vp
   . exact vJ
   . exact vG
  rw [mG i k.1 k.2];simp only [cI,cond_false,i];rcases j with⟨f,r,rfl⟩|⟨r,rfl⟩|⟨r,rfl⟩<;>cases r<;>rfl
 have b:(∃f r,aop E l.ev h o.op=cG f r)\/(∃r,aop E l.ev h o.op=cU r)\/ ∃r,aop E l.ev h o.op=fj r:=by
  obtain⟨m,op,n,pos,g,guard⟩:=o;simp only []at hf⊢;cases op<;>(try (cases hf;done))
  all_goals first
   |exact .inl ⟨h,some (l.ev _),rfl⟩
   |exact .inl ⟨h,_,rfl⟩
   |exact .inr (.inl ⟨_,rfl⟩)
   |exact .inr (.inr ⟨_,rfl⟩)
 refine⟨?_,e _ rfl b⟩;rw [e _ rfl b];cases cI E R l.ev false o h<;>rfl
theorem wA(E:Env)(q i:Nat)(op:Op):rU E q i op=ey E q i op:=by
 unfold rU ey;cases a:Xc q 0 with
 | true=>have:q=0:=Xd a;subst this;simp|false=>cases Nat.testBit q i<;>rfl
theorem elseDK_eq (E:Env) (R:Rec) (d:Bool) (o:Oper) (l:Loc) (h:Hp) (k:Value->Hp->Opt):xU E R d o l h k=lG E R d o l h k:=by
 unfold xU;cases e:asCall o.op with
 |none=>rfl| some c=>
   show callDK E R d o c l h k=_;have t:o.op=.call c:=by
    unfold asCall at e
    split at e
    . rename_i i;cases e;exact i
    . cases e
   unfold callDK;cases j:c.callee with
   |invoke r n=>rfl|builtin b=>rfl| value f =>
     show Option.rec (motive:=fun _=>Opt) (lG E R d o l h k) _ (asFn (evK l f))=_;rw [gM];cases hf:asFn (l.ev f)with
     |none=>rfl| some p=>
       obtain⟨g,a,b⟩:=p;have u:l.ev f=.func (.func g) a b:=by
        unfold asFn at hf
        split at hf
        . rename_i i;cases hf;exact i
        . cases hf
       have s: ∀h,aop E l.ev h o.op=some (.call g (a.toList++c.args.toList.map l.ev++b.toList),h):=(by intro h;rw [t];simp only [aop,j,u,target]);unfold lG cI;cases d with
       | false=>
         simp only [cond_false,s,c6];show resDK (R.call g (a.toList++c.args.toList.map l.ev++b.toList) none h) k=_;cases R.call g (a.toList++c.args.toList.map l.ev++b.toList) none h with
         |none=>rfl|some q=>obtain⟨x,w,m⟩:=q;cases x<;>rfl
       | true=>
         simp only [cond_true,s,c6];show resDK (R.call g (a.toList++c.args.toList.map l.ev++b.toList) none {h with lo:=h.n}) (wI h k)=_;cases R.call g (a.toList++c.args.toList.map l.ev++b.toList) none {h with lo:=h.n}with
         |none=>rfl| some q=>
           obtain⟨x,w,m⟩:=q;cases x with
           |pan v=>rfl| ret v=>
             show wI h k v m=_;simp only [wI];cases Xa h.n m.lo<;>rfl
theorem BJ{op:Op}(h:rM op=true):dG op=false:=by cases op<;>first|rfl|exact absurd h (by simp [rM])
theorem BD (E:Env) (R:Rec) (cx:Cx) (ops:List Oper) (q:Nat) (K:Loc->Hp->List (Nat×Tch)->Opt): ∀(os:List Oper) (i:Nat) (l:Loc) (h:Hp) (a:List (Nat×Tch)),
 pV E R cx ops q (fun _ l h a=>K l h a) os i l h a=(match bN E R ops q os i l h a with
  |none=>none|some (l',c,e)=>K l' c e)
 | [],i,l,h,a=>rfl| o :: os,i,l,h,a=>by
   have j:=BD E R cx ops q K os;show Option.rec (motive:=fun _=>Opt) none (fun b=>Bool.rec (pV E R cx ops q (fun _ l h a=>K l h a) os (i+1) (g9 l o.dst (.tuple #[])) h a) (xm E R cx q o (pV E R cx ops q (fun _ l h a=>K l h a) os) i l h a) b) (rK ops l o)=_;rw [yC];simp only [bN];cases ct ops l.regs o with
   |none=>rfl| some b=>
     cases b with
     |false=>show pV E R cx ops q (fun _ l h a=>K l h a) os (i+1) (g9 l o.dst (.tuple #[])) h a=_;rw [j,nA]
     | true=>
       show xm E R cx q o (pV E R cx ops q (fun _ l h a=>K l h a) os) i l h a=_;simp only [];have d: ∀g,ey E q i o.op=g->lG E R g o l h (fun v c=>pV E R cx ops q (fun _ l h a=>K l h a) os (i+1) (g9 l o.dst v) c (ig i a (cH (l.evD (tmpsOf o.op.operands.toList)) g o.op h c)))=
        (match(match cI E R (l.evD (tmpsOf o.op.operands.toList)) (ey E q i o.op) o h with
          |none=>none|some (v,c)=>bN E R ops q os (i+1) (l.put o.dst v) c (ig i a (cH (l.evD (tmpsOf o.op.operands.toList)) (ey E q i o.op) o.op h c)))with
          |none=>none|some (l',c,e)=>K l' c e):=by
        intro g f;rw [f,ze];unfold lG;cases cI E R l.ev g o h with
        |none=>rfl|some p=>obtain⟨v,c⟩:=p;show pV E R cx ops q _ os (i+1) (g9 l o.dst v) c _=_;rw [j,nA]
       unfold xm;cases hf:rM o.op with
       | false=>show xU E R (rU E q i o.op) o l h _=_;rw [elseDK_eq,wA];exact d _ rfl| true=>
         have m: ∀b (h c:Hp),cH (l.evD (tmpsOf o.op.operands.toList)) b o.op h c=xq l o.op:=(by intro b h c;have k:fe o.op=false:=(by cases n:o.op<;>first|rfl|(rw [n]at hf;simp [rM]at hf));unfold cH xq jK;rw [BJ hf,k];rfl);simp only [m]at d⊢;cases f:rU E q i o.op with
         | true=>rw [wA]at f;exact d true f| false=>
           rw [wA]at f;show opK o.op E R cx o.dst l h _ _=_;rw [opK_eq,(fast_step (R:=R) hf (K:=fun _ _=>none)).2,ze,f];cases cI E R l.ev false o h with
           |none=>rfl|some p=>obtain⟨v,c⟩:=p;simp only [];rw [j]
theorem codeK_eq(E:Env)(R:Rec)(M:CodeM)(D: ∀cx c l h d g,M cx c l h d g=dS (R.code cx c l h) d g)(cx:Cx): ∀(c:Code) (l:Loc) (h:Hp) (d:Loc->Hp->Opt) (g:Ex->Loc->Hp->Opt),
 oN E R M cx c l h d g=dS (aG E R cx c l h) d g:=by
 intro c
 induction c with
 |skip=>intro l h d g;rfl|label n=>intro l h d g;rfl| region id j s=>
   intro l h d g;cases s with
   |false=>exact opsK_eq E R cx j.toList d g j.toList l h| true=>
     show(Bool.rec (motive:=fun _=>Opt) (drawK E R cx j.toList l h d) (dS (cutD E R cx j.toList l h) d g) (E.cut cx.fn):Opt)=_;simp only [aG,cond_true];cases E.cut cx.fn with
     |true=>rfl|false=>
     show drawK E R cx j.toList l h d=_;simp only [cond_false];unfold drawK drawKo;generalize bU j.toList=r;cases jh E r with
     |none=>rfl| some p=>
       obtain⟨q,u⟩:=p;show pV E R cx r q (fun _ l h B=>Bool.rec none (d l h) (cB B u)) r 0 l h []=_;rw [BD E R cx r q (fun l h B=>Bool.rec none (d l h) (cB B u))];simp only [];cases bN E R r q r 0 l h []with
       |none=>rfl| some x=>
         obtain⟨a,b,c⟩:=x;simp only [];cases cB c u<;>rfl
 | seq a b k o=>
   intro l h d g;show oN E R M cx a l h (fun l h=>oN E R M cx b l h d g) g=_;rw [k,show(fun l h=>oN E R M cx b l h d g)=fun l h=>dS (aG E R cx b l h) d g from funext fun l=>funext fun h=>o l h d g];rw [sP _ _ _ _ _ (fun _ _ _ _=>rfl)];simp only [aG];cases aG E R cx a l h with
   |none=>rfl|some q=>obtain⟨e,z,A⟩:=q;cases e<;>rfl
 | cond c a b k o=>
   intro l h d g;show Option.rec (motive:=fun _=>Opt) none (fun t=>Bool.rec (oN E R M cx b l h d g) (oN E R M cx a l h d g) t) (asBool (evK l c))=_;rw [gM,k,o];simp only [aG];cases l.ev c<;>(try rfl);rename_i t;cases t<;>rfl
 | block id b w=>
   intro l h d g;show oN E R M cx b l h d (fun e l h=>blkK e id d g l h)=_;rw [w];simp only [aG];cases aG E R cx b l h with
   |none=>rfl| some q=>
     obtain⟨e,z,A⟩:=q;cases e with
     |normal=>rfl|ret=>rfl|pan v=>rfl| exit i=>
       show Bool.rec (motive:=fun _=>Opt) (g (.exit i) z A) (d z A) (Xc i id)=_;simp only [];cases Xc i id<;>rfl
 | loop b w=>
   intro l h d g;show oN E R M cx b l h (fun l h=>M cx (.loop b) l h d g) g=_;rw [w,show(fun l h=>M cx (.loop b) l h d g)=fun l h=>dS (R.code cx (.loop b) l h) d g from funext fun l=>funext fun h=>D cx (.loop b) l h d g];rw [sP _ _ _ _ _ (fun _ _ _ _=>rfl)];simp only [aG];cases aG E R cx b l h with
   |none=>rfl|some q=>obtain⟨e,z,A⟩:=q;cases e<;>rfl
 | rangeFunc f u C y _ _=>intro l h d g;show dS (iR R cx (evK l f) u C y l h) d g=_;rw [gM];rfl|exit id=>intro l h d g;rfl|scope b w=>intro l h d g;exact w l h d g|goto n=>intro l h d g;rfl|ret=>intro l h d g;rfl|refuse m=>intro l h d g;rfl

theorem AX(E:Env)(R:Rec)(a:Func)(l:Loc)(h:Hp):doneK E R a l h=wz E R a l h:=by
 unfold doneK wz;cases b:l.dfs with
 |cons d c=>rfl| nil=>
   simp only [ck];cases bH E l.regs h a.results.toList<;>rfl
theorem callBK_eq(E:Env)(R:Rec)(f:FuncId)(args:List Value)(c:Option (Value×Bool))(h:Hp):callBK E R f args c h=kH E R f args c h:=by
 unfold callBK kH;cases E.fn f with
 |none=>rfl| some b=>
   show Option.rec (motive:=fun _=>pu) none (fun a=>wX E R f args c h b a) b.body=_;simp only [];cases b.body with
   |none=>rfl| some a=>
     show wX E R f args c h b a=_;unfold wX;simp only [];cases Xa args.length b.ntmps with
     |false=>rfl| true=>
       show leaveK E R b _=_;simp only [cond_true];cases R.code ⟨f,b.ntmps,none⟩ a ⟨(Tr.blank (.tuple #[]) b.ntmps b.ntmps).setAll 0 args,[],c⟩ h with
       |none=>rfl| some q=>
         obtain⟨e,l,d⟩:=q;cases e with
         |exit i=>rfl|pan v=>rfl|normal=>exact AX E R b l d|ret=>exact AX E R b l d

theorem callSK_eq(E:Env)(R:Rec)(f:FuncId)(args:List Value)(a:Option (Value×Bool))(h:Hp):wS E R f args a h=iY E R f args a h:=by
 unfold wS iY;cases E.orc f args with
 |none=>exact callBK_eq E R f args a h|some v=>cases a<;>rfl

theorem As(E:Env): ∀n,(runK E n).rec'=run E n/\ ∀cx c l h b d,(runK E n).code cx c l h b d=dS ((run E n).code cx c l h) b d
 |0=>⟨rfl,fun _ _ _ _ _ _=>rfl⟩
 | n+1=>by
   obtain⟨i,k⟩:=As E n;have j: ∀cx c l h b d,(runK E (n+1)).code cx c l h b d=dS ((run E (n+1)).code cx c l h) b d:=(by intro cx c l h b d;show oN E (runK E n).rec' (runK E n).code cx c l h b d=dS (aG E (run E n) cx c l h) b d;rw [i];exact codeK_eq E (run E n) (runK E n).code k cx c l h b d);refine⟨?_,j⟩;show Rec.mk (fun f a g h=>wS E (runK E n).rec' f a g h) (fun cx c l h=>(runK E (n+1)).code cx c l h (fun l h=>some (.normal,l,h)) (fun e l h=>some (e,l,h)))=next E (run E n)
   rw [i];unfold next
   congr 1
   . funext f a g h;exact callSK_eq E (run E n) f a g h
   . funext cx c l h;rw [j,bind2_id];rfl
theorem runK_call(E:Env)(n:Nat)(f:FuncId)(args:List Value)(a:Option (Value×Bool))(h:Hp):(runK E n).call f args a h=(run E n).call f args a h:=by rw [<-(As E n).1];rfl

theorem envK_eq(a:Tr Func)(b:Tr TypeInfo)(c:List Nat):envK a b c=envOf a b c:=rfl

end
end Go.Ab

namespace Go.Ab
section
variable{E:Env}{ρ:Operand->Value}{h:Hp}
theorem o_move{x:Operand}:aop E ρ h (.move x)=some (.val (ρ x),h):=rfl
theorem o_assign{x:Operand}:aop E ρ h (.assign x)=some (.val (ρ x),h):=rfl
theorem o_load{t:TypeId}{a:Operand}:aop E ρ h (.load t a)=cG h (eK E h t (ρ a)):=rfl
theorem o_store{t:TypeId}{a x:Operand}:aop E ρ h (.store t a x)=fj (jm E h t (ρ a) (ρ x)):=rfl
theorem o_binOp{op:BinOp}{t u:TypeId}{x y:Operand}:aop E ρ h (.binOp op t x y u)=cG h (aZ E op t x y (ρ x) (ρ y)):=rfl
theorem o_unOp{op:UnOp}{t:TypeId}{x:Operand}:aop E ρ h (.unOp op t x)=cG h (unP op (ρ x)):=rfl
theorem CU{f:FuncId}{a b:Array Operand}:aop E ρ h (.makeFunc (.func f) a b)=some (.val (.func (.func f) (a.map ρ) (b.map ρ)),h):=rfl
theorem o_slice{t:TypeId}{x:Operand}{l u m:Option Operand}:aop E ρ h (.slice t x l u m)=cG h (cK E t (ρ x) (l.map ρ) (u.map ρ) (m.map ρ)):=rfl
theorem Cq{s:TypeId}{x:Operand}{i:Nat}:aop E ρ h (.fieldAddr s x i)=cG h (aB E s (ρ x) i):=rfl
theorem o_field{s:TypeId}{x:Operand}{i:Nat}:aop E ρ h (.field s x i)=cG h (bF E s (ρ x) i):=rfl
theorem B8{t:TypeId}{x i:Operand}:aop E ρ h (.indexAddr t x i)=cG h (eP E t (ρ x) (ρ i)):=rfl
theorem o_index{t:TypeId}{x i:Operand}:aop E ρ h (.index t x i)=cG h (kQ E t (ρ x) (ρ i)):=rfl
theorem o_build{t:TypeId}{ps:Array (Nat×Operand)}:aop E ρ h (.build t ps)=cG h (lC E t (ps.toList.map fun p=>(p.1,ρ p.2))):=rfl
theorem BG{t:TypeId}{n:Nat}{ps:Array (Nat×Operand)}:aop E ρ h (.buildSlice t n ps)=cU (jQ E h t n (ps.toList.map fun p=>(p.1,ρ p.2))):=rfl
theorem BR{t:TypeId}{l c:Operand}:aop E ρ h (.makeSlice t l c)=cU (jz E h t (ρ l) (ρ c)):=rfl
theorem Ar{x:Operand}{s t:TypeId}{a:Bool}:aop E ρ h (.typeAssert x s t a)=cG h (qi E (ρ x) t a):=rfl
theorem o_convert{s t:TypeId}{x:Operand}:aop E ρ h (.convert s t x)=cU (bV E h s t (ρ x)):=rfl
theorem o_lookup{t:TypeId}{m k:Operand}{a:Bool}:aop E ρ h (.lookup t m k a)=cG h (dC E h t (ρ m) (ρ k) a):=rfl
theorem Ca{t:TypeId}{m k v:Operand}:aop E ρ h (.mapUpdate t m k v)=fj (dY E h t (ρ m) (ρ k) (ρ v)):=rfl
theorem CC{t:TypeId}{m k:Operand}:aop E ρ h (.mapEntry t m k)=cU (jM E h t (ρ m) (ρ k)):=rfl
theorem BE{t:TypeId}{m s v:Operand}:aop E ρ h (.entryStore t m s v)=fj (mg h (ρ m) (ρ s) (ρ v)):=rfl
theorem o_callv{f:Operand}{as:Array Operand}{ts:Array TypeId}:aop E ρ h (.call ⟨.value f,as,ts⟩)=match target (ρ f) (as.toList.map ρ)with|none=>none|some x=>some (x,h):=rfl
theorem o_max{x y:Operand}{ts:Array TypeId}:aop E ρ h (.call ⟨.builtin .max,#[x,y],ts⟩)=cG h (ib true (ρ x) [ρ y]):=rfl
theorem o_min{x y:Operand}{ts:Array TypeId}:aop E ρ h (.call ⟨.builtin .min,#[x,y],ts⟩)=cG h (ib false (ρ x) [ρ y]):=rfl
theorem o_append{s x:Operand}{ts:Array TypeId}:aop E ρ h (.call ⟨.builtin .append,#[s,x],ts⟩)=cU (du E h ts.toList (ρ s) (ρ x)):=rfl
theorem o_copy{s x:Operand}{ts:Array TypeId}:aop E ρ h (.call ⟨.builtin .copy,#[s,x],ts⟩)=cU (copyV E h ts.toList (ρ s) (ρ x)):=rfl
end
theorem Dn{h:Hp}{v:Value}:cG h (some v)=some (.val v,h):=rfl
theorem Cw{h:Hp}{v:Value}:cU (some (h,v))=some (.val v,h):=rfl
theorem Dg{h:Hp}:fj (some h)=some (.skip,h):=rfl
theorem eE(k:IntKind):i6 k k=true:=by rw [ip];simp
theorem b_add{E:Env}{t:TypeId}{x y:Operand}{k:IntKind}{m n:Int}:aZ E .add t x y (.int k m) (.int k n)=some (.int k (ag k (m+n))):=by simp [aZ,eE,ir]
theorem b_sub{E:Env}{t:TypeId}{x y:Operand}{k:IntKind}{m n:Int}:aZ E .sub t x y (.int k m) (.int k n)=some (.int k (ag k (m-n))):=by simp [aZ,eE,ir]
theorem b_mul{E:Env}{t:TypeId}{x y:Operand}{k:IntKind}{m n:Int}:aZ E .mul t x y (.int k m) (.int k n)=some (.int k (ag k (m*n))):=by simp [aZ,eE,ir]
theorem mY(m n:Int):iI m n=decide (m=n):=by rw [io];by_cases h:m=n<;>simp [h]
theorem b_eql{E:Env}{t:TypeId}{x y:Operand}{k:IntKind}{m n:Int}:aZ E .eql t x y (.int k m) (.int k n)=some (.bool (decide (m=n))):=by simp [aZ,eE,ir,mY]
theorem b_neq{E:Env}{t:TypeId}{x y:Operand}{k:IntKind}{m n:Int}:aZ E .neq t x y (.int k m) (.int k n)=some (.bool (!decide (m=n))):=by simp [aZ,eE,ir,mY]
theorem b_lss{E:Env}{t:TypeId}{x y:Operand}{k:IntKind}{m n:Int}:aZ E .lss t x y (.int k m) (.int k n)=some (.bool (decide (m<n))):=by simp [aZ,eE,ir,iJ]
theorem b_leq{E:Env}{t:TypeId}{x y:Operand}{k:IntKind}{m n:Int}:aZ E .leq t x y (.int k m) (.int k n)=some (.bool (decide (m<=n))):=by
 simp only [aZ,eE,ir,iJ,cond_true];by_cases a:m<=n
 . rw [decide_eq_true a,decide_eq_false (by omega)];rfl
 . rw [decide_eq_false a,decide_eq_true (by omega)];rfl
theorem b_gtr{E:Env}{t:TypeId}{x y:Operand}{k:IntKind}{m n:Int}:aZ E .gtr t x y (.int k m) (.int k n)=some (.bool (decide (n<m))):=by simp [aZ,eE,ir,iJ]
theorem b_geq{E:Env}{t:TypeId}{x y:Operand}{k:IntKind}{m n:Int}:aZ E .geq t x y (.int k m) (.int k n)=some (.bool (decide (n<=m))):=by
 simp only [aZ,eE,ir,iJ,cond_true];by_cases a:n<=m
 . rw [decide_eq_true a,decide_eq_false (by omega)];rfl
 . rw [decide_eq_false a,decide_eq_true (by omega)];rfl
theorem lI{E:Env}{t:TypeId}{x y:Operand}{k:IntKind}{m n:Int}(h:n≠0):aZ E .quo t x y (.int k m) (.int k n)=some (.int k (ag k (m.tdiv n))):=by simp [aZ,eE,ir,mY,h]
theorem gJ{E:Env}{t:TypeId}{x y:Operand}{k:IntKind}{m n:Int}(h:n≠0):aZ E .rem t x y (.int k m) (.int k n)=some (.int k (m.tmod n)):=by simp [aZ,eE,ir,mY,h]
theorem mm_max{k k':IntKind}{a b:Int}:ib true (.int k a) [.int k' b]=some (.int k (max a b)):=by
 simp only [ib,iJ,cond_true];by_cases h:a<b
 . rw [decide_eq_true h];simp only [cond_true];rw [Int.max_eq_right (by omega)]
 . rw [decide_eq_false h];simp only [cond_false];rw [Int.max_eq_left (by omega)]
theorem mm_min{k k':IntKind}{a b:Int}:ib false (.int k a) [.int k' b]=some (.int k (min a b)):=by
 simp only [ib,iJ,cond_false];by_cases h:b<a
 . rw [decide_eq_true h];simp only [cond_true];rw [Int.min_eq_right (by omega)]
 . rw [decide_eq_false h];simp only [cond_false];rw [Int.min_eq_left (by omega)]
theorem jw{E:Env}{h:Hp}{t:TypeId}{b o:Nat}{s:Option Nat}{v:Value}(a:E.agg t=some false)(c:h.load b o 1=some [v]):eK E h t (.pointer (some ⟨b,o,s⟩))=some v:=by simp [eK,a,c]
theorem wrap64{n:Int}(a: -9223372036854775808<=n)(b:n<9223372036854775808):ag .i64 n=n:=by
 unfold ag;cases n with
 | ofNat m=>have:Xs m (hf .i64)=true:=(by rw [Nat.blt_eq];simp only [hf];have c:(m:Int)<9223372036854775808:=b;omega);simp only [this,cond_true]| negSucc m=>have:Xs m (hf .i64)=true:=(by rw [Nat.blt_eq];simp only [hf];have: -9223372036854775808<=Int.negSucc m:=a;omega);simp only [sgn,this,cond_true]
theorem u7{c:Type}{a:c}{P:c->Prop}:(∃b,some a=some b/\P b)↔P a:=⟨fun⟨b,d,e⟩=>by cases d;exact e,fun h=>⟨a,rfl,h⟩⟩
theorem B4{a:Bool}{P:Bool->Prop}:(∃t,Value.bool a=Value.bool t/\P t)↔P a:=⟨fun⟨b,c,d⟩=>by cases c;exact d,fun h=>⟨a,rfl,h⟩⟩
end Go.Ab
namespace Go.Ab
theorem cq{v:Value}{l:List Value}:dy (v::l) 0=v:=rfl
theorem cV{v:Value}{l:List Value}{i:Nat}:dy (v::l) (i+1)=dy l i:=rfl
end Go.Ab
namespace Go.Ab
section
variable{l:Loc}
theorem c_int{k:IntKind}{n:Int}:l.ev (.const (.int k n))=.int k n:=rfl
theorem c_bool{b:Bool}:l.ev (.const (.bool b))=.bool b:=rfl
theorem c_string{s:ByteArray}:l.ev (.const (.string s))=.string s:=rfl
theorem c_nilp:l.ev (.const (.pointer none))=.pointer none:=rfl
theorem c_nils:l.ev (.const (.slice none 0 0))=.slice none 0 0:=rfl
theorem c_nilm:l.ev (.const (.map none))=.map none:=rfl
theorem c_nilf:l.ev (.const .nilFunc)=.nilFunc:=rfl
theorem c_nili:l.ev (.const .nilIface)=.nilIface:=rfl
end
end Go.Ab
namespace Go.Ab
def one1:Option (List Value)->Option Value
 |some [v]=>some v|_=>none
theorem one1_some{v:Value}:one1 (some [v])=some v:=rfl
theorem CW{E:Env}{h:Hp}{t:TypeId}{b o:Nat}{s:Option Nat}(a:E.agg t=some false):eK E h t (.pointer (some ⟨b,o,s⟩))=one1 (h.load b o 1):=by simp only [eK,a];unfold one1;rfl
end Go.Ab
namespace Go.Ab
def gv(a:Bool):Option Value->Option Bool
 |some (.bool b)=>some (bif b then a else !a)
 |some (.tuple _)=>some false|_=>none
noncomputable def gj(a:Bool)(b:Tr Value):Option Oper->Option Bool
 |none=>some false| some o=>match o.dst with
   |none=>some false|some d=>gv a (b.get d)
theorem Ct{a:List Oper}{c:Tr Value}{d:Option Tmp}{op:Op}{t:TypeId}{p:String}{e:Array Edge}{j:Nat}{b:Bool}:ct a c ⟨d,op,t,p,e,some (j,b)⟩=gj b c (a[j]?):=by
 simp only [ct,gj];cases a[j]? with
 |none=>rfl| some o=>
   simp only [];cases o.dst with
   |none=>rfl| some d=>
     simp only [gv];cases c.get d with
     |none=>rfl|some v=>cases v<;>rfl
theorem gj_some{a:Bool}{b:Tr Value}{d:Tmp}{op:Op}{t:TypeId}{p:String}{c:Array Edge}{g:Option (Nat×Bool)}:gj a b (some ⟨some d,op,t,p,c,g⟩)=gv a (b.get d):=rfl
theorem gv_true{b:Bool}:gv true (some (.bool b))=some b:=by cases b<;>rfl
theorem gv_false{b:Bool}:gv false (some (.bool b))=some (!b):=by cases b<;>rfl
theorem gv_tuple{a:Bool}{x:Array Value}:gv a (some (.tuple x))=some false:=rfl
theorem u_not{b:Bool}:unP .not (.bool b)=some (.bool (!b)):=rfl
theorem target_fn{g:FuncId}{a b:Array Value}{args:List Value}:target (.func (.func g) a b) args=some (.call g (a.toList++args++b.toList)):=rfl
def bG(E:Env)(f:FuncId)(args:List Value)(h:Hp)(v:Value):Prop:=Ret E f args h fun a b=>a=v/\Gr h b
end Go.Ab
namespace Go.Ab
theorem dD{E:Env}{cx:Cx}{Q:fq}{k:List Fr}{l:Loc}{h:Hp}{b:Code}:Run E (lim E) cx Q (.code (.loop b)::k) .normal l h↔Run E (lim E) cx Q (.code b:: .code (.loop b)::k) .normal l h:=by
 rw [<-run_seq];simp only [Run];have:aG E (lim E) cx (.loop b) l h=aG E (lim E) cx (.seq b (.loop b)) l h:=by
  simp only [aG];cases aG E (lim E) cx b l h with
  |none=>rfl| some q=>
    obtain⟨e,a,c⟩:=q;cases e with
    |normal=>show(lim E).code cx (.loop b) a c=_;rw [yg];rfl|exit i=>rfl|ret=>rfl|pan v=>rfl
 rw [this]
def lenK(r:Option (dw×Hp))(h:Hp):Option Value->Option (dw×Hp)
 |some v=>some (.val v,h)|none=>r
theorem o_lenK{E:Env}{ρ:Operand->Value}{h:Hp}{x:Operand}{t:TypeId}:aop E ρ h (.call ⟨.builtin .len,#[x],#[t]⟩)=lenK (match ρ x with
 | .map (some r)=>match h.get r with
   |some (.map a _)=>match E.und t with
    |some (.map _ _)=>some (.val (.int .i64 (.ofNat a.length)),h)|_=>none
   |_=>none
 |_=>none) h (px E t (ρ x)):=by
 simp only [aop,pop];cases px E t (ρ x)with
 |some v=>rfl| none=>
   simp only [lenK];cases ρ x<;>rfl
theorem natOf_nn{i:Int}(h:0<=i):fm i=some i.toNat:=by
 cases i with
 |ofNat n=>rfl|negSucc n=>exact absurd h (by simp)
theorem idxP_in{k:IntKind}{i:Int}{n:Nat}(a:0<=i)(b:i<n):iX (.int k i) n=some i.toNat:=by
 simp only [iX,natOf_nn a];have:Xs i.toNat n=true:=by rw [Nat.blt_eq];omega
 rw [this];rfl
theorem eU{k:IntKind}{i n:Nat}(a:i<n):iX (.int k (i:Int)) n=some i:=by rw [idxP_in (Int.natCast_nonneg i) (by omega)];simp
theorem ia_slice{E:Env}{t e:TypeId}{k:Nat}{a:Addr}{n c:Nat}{v:Value}(b:E.und t=some (.slice e))(d:E.sz e=some k):eP E t (.slice (some a) n c) v=(iX v n).map fun i=>.pointer (some (gQ a (i*k))):=by simp only [eP,b,d];cases iX v n<;>rfl
end Go.Ab
namespace Go.Ab
theorem ah{E:Env}{cx:Cx}{o:Oper}{l:Loc}{K:Ex->Loc->Hp->Prop}{h:Hp}{f:FuncId}{args:List Value}{v:Value}(b:bG E f args h v)(c: ∀a,Gr h a->K .normal (l.put o.dst v) a):fD E cx o l K (some (.call f args,h)):=
 step_ret b fun d a ⟨e,g⟩=>by rw [e];exact c a g
theorem xk{E:Env}{K:Value->Hp->Prop}{f:FuncId}{args:List Value}{h:Hp}{v:Value}(b:bG E f args h v)(c: ∀a,Gr h a->K v a):ki E K (some (.call f args,h)):=
 zm b fun d a ⟨e,g⟩=>by rw [e];exact c a g
theorem bG.of{E:Env}{f:FuncId}{args:List Value}{h:Hp}{v:Value}(a:Ret E f args h fun v' b=>v'=v/\Gr h b):bG E f args h v:=a
end Go.Ab
namespace Go.Ab
section
variable(E:Env)(cx:Cx)(Q:fq)
def GStep(a:List Oper)(o:Oper)(os:List Oper)(k:List Fr)(l:Loc)(h:Hp):Option Bool->Prop
 |some true=>fD E cx o l (fun e b c=>Run E (lim E) cx Q (.ops a os::k) e b c) (aop E l.ev h o.op)
 |some false=>Run E (lim E) cx Q (.ops a os::k) .normal (l.put o.dst (.tuple #[])) h|none=>False
def CStep(a b:Code)(k:List Fr)(l:Loc)(h:Hp):Value->Prop
 | .bool true=>Run E (lim E) cx Q (.code a::k) .normal l h| .bool false=>Run E (lim E) cx Q (.code b::k) .normal l h|_=>False
def wL(a:List Oper)(q:Nat)(ps:List (Nat×Nat))(o:Oper)(os:List Oper)(i:Nat)(c:List (Nat×Tch))(k:List Fr)(l:Loc)(h:Hp):Option Bool->Bool->Prop
 |some true,false=>ki E (fun v b=>Run E (lim E) cx Q (.opsD a q ps os (i+1) (ig i c (cH l.ev false o.op h b))::k) .normal (l.put o.dst v) b) (aop E l.ev h o.op)
 |some true,true=>ki E (fun v b=>Xa h.n b.lo=true/\Run E (lim E) cx Q (.opsD a q ps os (i+1) (ig i c (cH l.ev true o.op h h))::k) .normal (l.put o.dst v) {b with lo:=h.lo}) (aop E l.ev {h with lo:=h.n} o.op)
 |some false,_=>Run E (lim E) cx Q (.opsD a q ps os (i+1) c::k) .normal (l.put o.dst (.tuple #[])) h|none,_=>False
end
section
variable{E:Env}{cx:Cx}{Q:fq}{k:List Fr}{l:Loc}{h:Hp}
theorem r_ops{a os:List Oper}{o:Oper}:Run E (lim E) cx Q (.ops a (o::os)::k) .normal l h↔GStep E cx Q a o os k l h (ct a l.regs o):=by
 rw [Bj];cases ct a l.regs o with
 |none=>exact⟨fun⟨_,e,_⟩=>(by cases e),fun h=>h.elim⟩
 | some b=>
   rw [u7];cases b with
   |true=>rw [if_pos rfl];exact then_step|false=>rw [if_neg (by simp)];exact zB
theorem g_true{a os:List Oper}{o:Oper}:GStep E cx Q a o os k l h (some true)↔fD E cx o l (fun e l' b=>Run E (lim E) cx Q (.ops a os::k) e l' b) (aop E l.ev h o.op):=zB
theorem g_false{a os:List Oper}{o:Oper}:GStep E cx Q a o os k l h (some false)↔Run E (lim E) cx Q (.ops a os::k) .normal (l.put o.dst (.tuple #[])) h:=zB
theorem r_cond{c:Operand}{a b:Code}:Run E (lim E) cx Q (.code (.cond c a b)::k) .normal l h↔CStep E cx Q a b k l h (l.ev c):=by
 rw [run_cond];cases l.ev c<;>(try (exact⟨fun⟨_,e,_⟩=>(by cases e),fun h=>h.elim⟩));rename_i t;rw [B4];cases t with
 |true=>rw [if_pos rfl];exact zB|false=>rw [if_neg (by simp)];exact zB
theorem c_true{a b:Code}:CStep E cx Q a b k l h (.bool true)↔Run E (lim E) cx Q (.code a::k) .normal l h:=zB
theorem c_false{a b:Code}:CStep E cx Q a b k l h (.bool false)↔Run E (lim E) cx Q (.code b::k) .normal l h:=zB
theorem r_opsD{a os:List Oper}{o:Oper}{q i:Nat}{ps:List (Nat×Nat)}{c:List (Nat×Tch)}:Run E (lim E) cx Q (.opsD a q ps (o::os) i c::k) .normal l h↔wL E cx Q a q ps o os i c k l h (ct a l.regs o) (ey E q i o.op):=by
 rw [run_opsD];cases ct a l.regs o with
 |none=>exact⟨fun⟨_,e,_⟩=>(by cases e),fun h=>h.elim⟩
 | some b=>
   rw [u7];cases b with
   | true=>
     rw [if_pos rfl];cases ey E q i o.op with
     |true=>rw [if_pos rfl];exact zB|false=>rw [if_neg (by simp)];exact zB
   |false=>rw [if_neg (by simp)];exact zB
theorem d_skip{a os:List Oper}{o:Oper}{q i:Nat}{ps:List (Nat×Nat)}{c:List (Nat×Tch)}{b:Bool}:wL E cx Q a q ps o os i c k l h (some false) b↔Run E (lim E) cx Q (.opsD a q ps os (i+1) c::k) .normal (l.put o.dst (.tuple #[])) h:=zB
theorem pP{i:Nat}{a:List (Nat×Tch)}:ig i a none=a:=rfl
theorem aV{i:Nat}{b:Tch}{a:List (Nat×Tch)}:ig i a (some b)=(i,b)::a:=rfl
theorem bj{a:List (Nat×Tch)}:cB a []=true:=rfl
theorem guard_no{a:List Oper}{b:Tr Value}{d:Option Tmp}{op:Op}{t:TypeId}{p:String}{c:Array Edge}:ct a b ⟨d,op,t,p,c,none⟩=some true:=rfl
end
end Go.Ab
namespace Go.Ab
theorem b_eqlB{E:Env}{t:TypeId}{x y:Operand}{a b:Bool}(c:E.und t=some .bool):aZ E .eql t x y (.bool a) (.bool b)=some (.bool (bif a then b else !b)):=by simp [aZ,gH,ef,c]
theorem b_neqB{E:Env}{t:TypeId}{x y:Operand}{a b:Bool}(c:E.und t=some .bool):aZ E .neq t x y (.bool a) (.bool b)=some (.bool (!(bif a then b else !b))):=by simp [aZ,gH,ef,c]
theorem same_bool{d:Bool}:(bif d then d else !d)=true:=by cases d<;>rfl
end Go.Ab
namespace Go.Ab
noncomputable def boxR(h:Hp)(t:TypeId):Value->Option (dw×Hp)
 | .chan _=>none|v=>some (.val (ptrTo h.n),h.new (.cells (Tr.ofList (ae v)) (ae v).length t 1))
theorem o_boxR{E:Env}{ρ:Operand->Value}{h:Hp}{t:TypeId}{x:Operand}:aop E ρ h (.box t x)=boxR h t (ρ x):=by simp only [aop];cases ρ x<;>rfl
noncomputable def allocR(h:Hp)(t:TypeId):Option (List Value)->Option (dw×Hp)
 |none=>none|some z=>some (.val (ptrTo h.n),h.new (.cells (Tr.ofList z) z.length t 1))
theorem o_allocR{E:Env}{ρ:Operand->Value}{h:Hp}{t:TypeId}:aop E ρ h (.alloc t)=allocR h t (E.zero t):=by simp only [aop];cases E.zero t<;>rfl
section
variable{E:Env}{cx:Cx}{o:Oper}{l:Loc}{K:Ex->Loc->Hp->Prop}{h:Hp}
theorem ax{ops:List Oper}(h:((ops.any tJ||ti ops)&&ops.all (iO ops.length))=false):bU ops=ops:=by unfold bU;rw [h];rfl
theorem av{Q:fq}{k:List Fr}{id:Nat}{ops:Array Oper}{q:Nat}{ps:List (Nat×Nat)}{os:List Oper}(b:bU ops.toList=os)(c:jh E os=some (q,ps))(d:Run E (lim E) cx Q (.opsD os q ps os 0 []::k) .normal l h)(a:E.cut cx.fn=false:=by rfl):Run E (lim E) cx Q (.code (.region id ops true)::k) .normal l h:=(run_draw a b c).2 d
theorem sV{Q:fq}{k:List Fr}{id:Nat}{ops:Array Oper}{q:Nat}{ps:List (Nat×Nat)}{os:List Oper}(b:jT ops.toList (ops.toList.length-1)=true){n:Nat}(c:cutN ops.toList=n)(d:bU (ops.toList.take n)=os)(e:jh E os=some (q,ps))
 (f:Run E (lim E) cx Q (.opsD os q ps os 0 []:: .ops ops.toList (ops.toList.drop n)::k) .normal l h) (a:E.cut cx.fn=true:=by rfl) (hf:tR E ops.toList=false:=by rfl):Run E (lim E) cx Q (.code (.region id ops true)::k) .normal l h:=run_split a b hf c d e f
end
theorem quiet_ok{h a:Hp}(g:Gr {h with lo:=h.n} a):Xa h.n a.lo=true:=g.hlo
theorem gr_lo{h a:Hp}(g:Gr {h with lo:=h.n} a):Gr h {a with lo:=h.lo}:=
 ⟨g.ok0,g.ok,g.n,g.get,fun _ _ h=>h⟩
end Go.Ab
namespace Go.Ab
theorem hush_s{E:Env}{q i:Nat}{op:Op}:ey E q i op=(decide (q/2 ^i%2=1)&&decide (3<=cls E op)):=by unfold ey;rw [Nat.testBit_eq_decide_div_mod_eq,d9]
end Go.Ab
namespace Go.Ab
theorem Cr{E:Env}{K:Value->Hp->Prop}{f:FuncId}{args:List Value}{h:Hp}{v:Value}(b:bG E f args {h with lo:=h.n} v)(c: ∀a,Gr h a->K v a):
 ki E (fun v a=>Xa h.n a.lo=true/\K v {a with lo:=h.lo}) (some (.call f args,{h with lo:=h.n})):=
 xk b fun a g=>⟨quiet_ok g,c _ (gr_lo g)⟩
end Go.Ab
namespace Go.Ab
section
variable(E:Env)(cx:Cx)(Q:fq)(a:List Oper)(q:Nat)(ps:List (Nat×Nat))(o:Oper)(os:List Oper)(i:Nat)(k:List Fr)(l:Loc)
def DN(c:Hp->List (Nat×Tch))(x:Option (dw×Hp)):Prop:=ki E (fun v b=>Run E (lim E) cx Q (.opsD a q ps os (i+1) (c b)::k) .normal (l.put o.dst v) b) x
def DQ(h:Hp)(c:List (Nat×Tch))(x:Option (dw×Hp)):Prop:=ki E (fun v b=>Xa h.n b.lo=true/\Run E (lim E) cx Q (.opsD a q ps os (i+1) c::k) .normal (l.put o.dst v) {b with lo:=h.lo}) x
end
section
variable{E:Env}{cx:Cx}{Q:fq}{a:List Oper}{q:Nat}{ps:List (Nat×Nat)}{o:Oper}{os:List Oper}{i:Nat}{k:List Fr}{l:Loc}{h:Hp}{tr:List (Nat×Tch)}{tf:Hp->List (Nat×Tch)}
theorem dn_loud:wL E cx Q a q ps o os i tr k l h (some true) false↔DN E cx Q a q ps o os i k l (fun b=>ig i tr (cH l.ev false o.op h b)) (aop E l.ev h o.op):=zB
theorem dn_quiet:wL E cx Q a q ps o os i tr k l h (some true) true↔DQ E cx Q a q ps o os i k l h (ig i tr (cH l.ev true o.op h h)) (aop E l.ev {h with lo:=h.n} o.op):=zB
theorem dn_val{v:Value}{b:Hp}:DN E cx Q a q ps o os i k l tf (some (.val v,b))↔Run E (lim E) cx Q (.opsD a q ps os (i+1) (tf b)::k) .normal (l.put o.dst v) b:=zB
theorem dn_skip{b:Hp}:DN E cx Q a q ps o os i k l tf (some (.skip,b))↔Run E (lim E) cx Q (.opsD a q ps os (i+1) (tf b)::k) .normal (l.put o.dst (.tuple #[])) b:=zB
theorem cg{f:FuncId}{args:List Value}{P:Value->Hp->Prop}(c:Ret E f args h P)(d: ∀v b,P v b->Run E (lim E) cx Q (.opsD a q ps os (i+1) (tf b)::k) .normal (l.put o.dst v) b):DN E cx Q a q ps o os i k l tf (some (.call f args,h)):=zm c d
theorem fh{f:FuncId}{args:List Value}{v:Value}(c:bG E f args h v)(d: ∀b,Gr h b->Run E (lim E) cx Q (.opsD a q ps os (i+1) (tf b)::k) .normal (l.put o.dst v) b):DN E cx Q a q ps o os i k l tf (some (.call f args,h)):=xk c d
theorem dq_pure{f:FuncId}{args:List Value}{v:Value}(c:bG E f args {h with lo:=h.n} v)(d: ∀b,Gr h b->Run E (lim E) cx Q (.opsD a q ps os (i+1) tr::k) .normal (l.put o.dst v) b):DQ E cx Q a q ps o os i k l h tr (some (.call f args,{h with lo:=h.n})):=Cr c d
end
end Go.Ab
namespace Go.Ab
theorem al{b:Nat}:ptrTo b=.pointer (some ⟨b,0,none⟩):=rfl
end Go.Ab

namespace Go.Ab
open Go.ChangeShapes Go.WideShapes Go.RowKit

theorem len2{c:Type}{l:List c}(h:l.length=2): ∃a b,l=[a,b]:=by
 match l,h with
 | [a,b],_=>exact⟨a,b,rfl⟩
section
variable{H:Type}{enc:TypeId×Value->H}{P:Program}
theorem sX(f:laidOutB P=true){W g:World}(i:Below W.heap.size W g): ∀{ts:List TypeId} {vs:List Value} {c:List (DataW H)} {ps:List MemPlace},(ts.all fun t=>P.readableRec t&&decide (t<P.types.size))=true->
 DataW.TrodAll enc P W 0 (fun _=>true) true ts vs c ps->(∀x∈ps,x.block<W.heap.size)->DataW.TrodAll enc P g 0 (fun b=>decide (b<W.heap.size)) true ts vs c ps
 | [],vs,c,ps,_,h,_=>by
   obtain⟨rfl,rfl,rfl⟩:=trodAll_nil h;exact rfl
 | t::ts,vs,c,ps,a,h,hlt=>by obtain⟨v,j,d,k,p,q,rfl,rfl,rfl,l,m⟩:=trodAll_cons h;simp only [List.all_cons,Xe,decide_eq_true_eq]at a;exact⟨p,q,Below.trod f a.1.1 a.1.2 l i (fun x e=>hlt x (by simp [e])),sX f i a.2 m (fun x e=>hlt x (by simp [e])),rfl⟩
theorem zQ{f:Func}{s:ChangeSpec}{a b:Bool}{W u:World}{args:Array Value}{g:List (DataW H)}{c:List MemPlace}{bt:TypeId}
 (y:laidOutB P=true) (k:(f.params.toList.all fun t=>P.readableRec t&&decide (t<P.types.size))=true) (v:s.vars=[])
 (l:DataW.Whole enc P f.params.toList s.vars a W args.toList g [] c) (d:s.fn H (g++[])={results:=[.lit (.bool true)],args:=g}) (j:Below W.heap.size W u)
 (m:P.underlying bt=some .bool) (n:f.resultTypes=#[bt]):
 s.post enc P f a true b false W args (.bool true) u:=by
 have hlt:=l.lt;have o:=l;obtain⟨p,q,z,w,rfl,C,D⟩:=l;rw [v]at w;obtain⟨_,rfl⟩:=trodVars_none w;refine⟨g,[],_,[],p,[],o,?_,?_,?_,⟨j.os,j.output,fun i A=>?_⟩,fun h=>by cases h⟩
 . rw [d,n];exact trodAll_cons_mk (shut_bool m _) trodAll_mk0
 . rw [d];exact sX y j k z (fun x B=>hlt x (by simpa using B))
 . rw [d,v];rfl
 . rw [j.block i A]
   split
   . rename_i r e;rw [r]at e;cases e;exact⟨rfl,rfl,rfl,fun _ _=>rfl⟩
   . rename_i r e;rw [r]at e;cases e;exact .inr ⟨rfl,rfl⟩
   . rfl

end
end Go.Ab

namespace Go.Ab
open Go.ChangeShapes Go.WideShapes Go.RowKit
noncomputable section

def jF(n:Nat):Value->Value
 | .bool b=>.bool b| .int k i=>.int k i| .string s=>.string s| .pointer none=>.pointer none| .pointer (some a)=>if a.spot=none/\a.block<n then .pointer (some ⟨a.block+16,a.off,none⟩)else poison
 | .slice none 0 0=>.slice none 0 0| .slice (some a) c d=>if c<=d then(if a.spot=none/\a.block<n then .slice (some ⟨a.block+16,a.off,none⟩) c d else .slice (some ⟨0,0,none⟩) c d)else poison
 |_=>poison
def absA(n:Nat):Value->Value
 | .agg a=>.agg ⟨a.toList.map (jF n)⟩|v=>jF n v
def absO(n:Nat):Obj->Blk
 | .cells a _ _=>.cells (Tr.ofList (a.toList.map (jF n))) (a.toList.map (jF n)).length 0 0|_=>.dead
def hpW(W:World):Hp:={n:=16+W.heap.size,t:=Tr.ofList (Xg 16 .dead++W.heap.toList.map (absO W.heap.size)),lo:=16+W.heap.size}
def muW(W:World):Mu:=fun b=>if b<16 then .dead else match W.heap[b-16]? with
 |some (.cells a _ _)=>.blk (b-16) 0 a.size|some _=>.dead|none=>.none

theorem hpW_ok(W:World):(hpW W).t.Sized (hpW W).n:=by
 have h:=Tr.sized_ofList (Xg 16 Blk.dead++W.heap.toList.map (absO W.heap.size));have a:(Xg 16 Blk.dead++W.heap.toList.map (absO W.heap.size)).length=16+W.heap.size:=by grind
 rw [a]at h;exact h
theorem hpW_dead(W:World){b:Nat}(h:b<16):(hpW W).get b=some .dead:=by show(Tr.ofList _).get b=_;rw [Tr.get_ofList,Xr (by simpa using h),Xt,if_pos h]
theorem tD(W:World)(c:Nat):(hpW W).get (c+16)=(W.heap[c]?).map (absO W.heap.size):=by show(Tr.ofList _).get (c+16)=_;rw [Tr.get_ofList,List.getElem?_append_right (by simp)];simp
theorem oR(W:World)(c:Nat):muW W (c+16)=match W.heap[c]? with
 |some (.cells cs _ _)=>.blk c 0 cs.size|some _=>.dead|none=>.none:=by
 rfl
theorem arel_W{W:World}{a:Addr}(h:a.spot=none/\a.block<W.heap.size):eH (muW W) ⟨a.block+16,a.off,none⟩ a:=by obtain⟨b,o,s⟩:=a;grind[eH,oR,Xi]
theorem vrel_V(W:World)(v:Value):ao (muW W) (jF W.heap.size v) v:=by
 cases v<;>(try exact .poison _)
 . exact .bool _
 . exact .int _ _
 . exact .string _
 . rename_i a;cases a with
   |none=>exact .nilp| some a=>
     simp only [jF]
     split
     . exact .ptr (arel_W ‹_›)
     . exact .poison _
 . rename_i a d e;cases a with
   | none=>
     cases d with
     | zero=>cases e with
       |zero=>exact .nils|succ n=>exact .poison _
     |succ n=>exact .poison _
   | some a=>
     simp only [jF]
     split
     . rename_i c
       split
       . rename_i h;refine .slice c ?_;have:=arel_W h;obtain⟨b,o,s⟩:=a;grind[d7,oR,Xi]
       . refine .slice c ?_;simp_all[d7,muW,Xb]
     . exact .poison _
theorem vrel_A(W:World)(v:Value):ao (muW W) (absA W.heap.size v) v:=by
 cases v
 case agg b=>
  refine .agg (by simp) fun i x c a d=>?_;simp only [Xp,Xj]at a;obtain⟨y,e,rfl⟩:=a;grind[vrel_V]
 all_goals (unfold absA;exact vrel_V W _)
theorem hrelW(W:World):aM (muW W) (hpW W) W:=by
 refine⟨hpW_ok W,fun b c a e d=>?_,fun b d=>?_,fun b s c a e f l t u=>?_,fun b d=>?_⟩
 . have w:16<=b:=by
    rcases Xm b 16 with h|h
    . simp_all[muW,if_pos]
    . exact h
   obtain⟨k,rfl⟩: ∃k,b=k+16:=⟨b-16,by omega⟩;rw [oR]at d
   split at d
   next m el n p=>
    cases d;refine⟨absO W.heap.size (.cells m el n),_,by rw [tD,p];rfl,p,m,el,n,rfl,rfl,by simp,Tr.sized_ofList _,fun i v g=>?_,fun h=>absurd rfl h⟩;rw [Tr.get_ofList]at g;simp only [Xp,Xj]at g;obtain⟨y,x,rfl⟩:=g;grind[vrel_V]
   next=>cases d
   next=>cases d
 . rcases Xm b 16 with h|h
   . exact hpW_dead W h
   . obtain⟨k,rfl⟩: ∃k,b=k+16:=⟨b-16,by omega⟩;rw [oR]at d
     split at d
     next=>cases d
     next o q j=>
      rw [tD,j];cases o<;>first|rfl|grind
     next=>cases d
 . have r: ∀b c a e,muW W b=.blk c a e->b=c+16:=by
    intro b c a e d;rcases Xm b 16 with h|h
    . simp_all[muW,if_pos]
    . obtain⟨k,rfl⟩: ∃k,b=k+16:=⟨b-16,by omega⟩;grind[oR]
   grind
 . show b<16+W.heap.size;rcases Xm b 16 with h|h
   . omega
   . obtain⟨k,rfl⟩: ∃k,b=k+16:=⟨b-16,by omega⟩;rw [oR]at d;grind
theorem globW(W:World):lW (muW W):=by intro g a;simp_all[eH,muW,if_pos]
theorem belowW{W w':World}{f:Mu}{m:Hp}(e:Ext (muW W) (hpW W) W f m w'):Below W.heap.size W w':=by
 refine⟨e.os,e.tape,e.output,e.wsize,fun c i=>?_⟩;cases n:W.heap[c]with
 | cells g el o=>have j:W.heap[c]? =some (.cells g el o):=(by grind);have p:muW W (c+16)=.blk c 0 g.size:=(by rw [oR,j]);exact(e.ro (c+16) c 0 g.size _ _ 0 p (by rw [tD,j];rfl)).1| _ =>
   refine e.frame c i fun b l q a=>?_;rcases Xm b 16 with h|h
   . unfold muW at a;rw [if_pos h]at a;cases a
   . obtain⟨k,rfl⟩: ∃k,b=k+16:=⟨b-16,by omega⟩;rw [oR]at a
     split at a
     next r s t d=>
      cases a;rw [Xi i,n]at d;cases d
     next=>cases a
     next=>cases a
theorem calls_W{E:Env}{P:Program}(d:EOk E P){f:FuncId}{args:Array Value}{W:World}(h:bG E f (args.toList.map (absA W.heap.size)) (hpW W) (.bool true)):
 Calls P f args W fun e w'=>e=.returned (.bool true)/\Below W.heap.size W w':=by
 obtain⟨v,A,j,rfl,g⟩:=h;intro k;obtain⟨_,a⟩:=lim_ok d _ _ _ _ _ _ _ j;have l:VL (muW W) (args.toList.map (absA W.heap.size)) args.toList:=by refine⟨by simp,fun i x B a C=>?_⟩;simp only [Xp,Xj]at a;obtain⟨y,D,rfl⟩:=a;grind[vrel_A]
 obtain⟨m,w',c,n,F,o,G,p,q,r,s⟩:=a (muW W) W args none k .normal (hrelW W) (globW W) l trivial (.inl rfl);have:=p.normal;subst this;obtain⟨H,b,t⟩:=r;cases t;obtain⟨u,w,z⟩:=b.res;exact⟨.returned (.bool true),w',n,⟨rfl,belowW o⟩,q,s,b.mode,b.defers,b.kind,u,w,z⟩
theorem load_W{W:World}{a:Addr}{i:Nat}{v:Value}(c:a.spot=none)(h:W.cell? (a.add i)=some v):(hpW W).load (a.block+16) (a.off+i) 1=some [jF W.heap.size v]:=by
 obtain⟨b,o,s⟩:=a;simp only []at c;subst c;have d:(Addr.mk b o none).add i=⟨b,o+i,none⟩:=by grind[Addr.add]
 rw [d]at h;unfold World.cell? at h;simp only []at h
 split at h
 next e el k f=>
  have g:Row (hpW W) (b+16) (e.toList.map (jF W.heap.size)) 0:=⟨_,_,by rw [tD,f];rfl,Tr.sized_ofList _,fun j=>Tr.get_ofList _ j⟩;refine g.load1 ?_;grind
 grind
end
end Go.Ab

namespace Go.Ab
def argEq:Value->Value->Bool
 | .int k a,.int c b=>i6 k c&&iI a b| .bool a,.bool b=>bif a then b else !b
 | .string s,.string u=>fi (aD s) (aD u)|_,_=>false
def qq:List Value->List Value->Bool
 | [],[]=>true|a::l,b::m=>argEq a b&&qq l m|_,_=>false
def orcOf:List (Nat×List Value×Value)->Nat->List Value->Option Value
 | [],_,_=>none|(f,as,v)::l,g,a=>bif Xc f g&&qq as a then some v else orcOf l g a
theorem A5{a b:Value}(h:argEq a b=true):a=b:=by
 unfold argEq at h
 split at h
 . rename_i k m c n;simp only [Xe]at h;have d:k=c:=(by simpa [ip]using h.1);have e:m=n:=(by simpa [io]using h.2);rw [d,e]
 . rename_i a b;cases a<;>cases b<;>first|rfl|cases h
 . rename_i s u;have this:s.data.toList=u.data.toList:=(by have:=h;rw [jC]at this;simpa [aD]using this);cases s with|mk a=>cases u with|mk b=>rw [show a=b from Array.ext' this]
 . cases h
theorem yF: ∀{a b:List Value},qq a b=true->a=b
 | [],[],_=>rfl| [],_::_,h=>by simp [qq]at h|_::_,[],h=>by simp [qq]at h| a::x,b::y,h=>by simp only [qq,Xe]at h;rw [yF h.2,A5 h.1]
theorem yO{P:Nat->List Value->Value->Prop}: ∀{l:List (Nat×List Value×Value)},(∀e∈l,P e.1 e.2.1 e.2.2)-> ∀{g:Nat} {args:List Value} {v:Value},orcOf l g args=some v->P g args v
 | [],_,g,args,v,h=>by cases h
 | (f,as,x)::l,b,g,args,v,h=>by
   simp only [orcOf]at h;cases a:Xc f g&&qq as args with
   | true=>
     rw [a]at h;cases h;simp only [Xe]at a;have c:=Xd a.1;have d:=yF a.2;subst c;subst d;exact b _ (Xn)
   | false=>
     rw [a]at h;exact yO (fun e i=>b e (List.mem_cons_of_mem _ i)) h
def isVal(v:Value)(r:Option (Out×Option (Value×Bool)×Hp)):Bool:=match r with
 |some (.ret u,none,_)=>argEq u v|_=>false
theorem isVal_ret{v:Value}{r:Option (Out×Option (Value×Bool)×Hp)}(h:isVal v r=true): ∃a,r=some (.ret v,none,a):=by
 unfold isVal at h
 split at h
 . rw [A5 h];exact⟨_,rfl⟩
 . cases h
def oz(E:Env)(P:Program)(e:Nat×List Value×Value):Prop:=(∃a,E.fn e.1=some a/\a.body.isSome=true)/\OrcAt P e.1 e.2.1 e.2.2
theorem known_of{E:Env}{P:Program}(c:EOk E P){n:Nat}{f:Nat}{args:List Value}{v:Value}(b:(args.all cR&&cR v)=true)(a:isVal v ((runK E n).call f args none hp0)=true):oz E P (f,args,v):=by simp only [Xe]at b;obtain⟨d,a⟩:=isVal_ret a;rw [runK_call]at a;exact CZ c b.1 b.2 a
theorem oz.with{E:Env}{P:Program}{o:Nat->List Value->Option Value}{e:Nat×List Value×Value}(k:oz E P e):oz (rJ E o) P e:=k
theorem oz.without{E:Env}{P:Program}{o:Nat->List Value->Option Value}{e:Nat×List Value×Value}(k:oz (rJ E o) P e):oz E P e:=k
theorem eok_table{E:Env}{P:Program}(b:EOk E P){l:List (Nat×List Value×Value)}(c: ∀e∈l,oz E P e):EOk (rJ E (orcOf l)) P:=
 eok_with b fun _ _ _ h=>yO (P:=fun g a v=>oz E P (g,a,v)) c h
end Go.Ab

namespace Go.Ab

inductive Ob where
 |row (l:List Value) (md:Nat)
 |map (es:List (Value×Value×Nat)) (c:Nat)
 |loop (x:gC)
 |dfr
def Has(h:Hp)(b:Nat):Ob->Prop
 | .row l a=>Row h b l a| .map d c=>h.get b=some (.map d c)| .loop x=>h.get b=some (.loop x)| .dfr=>h.get b=some .dfr
theorem Row.of_get{h f:Hp}{b:Nat}{l:List Value}{md:Nat}(e:f.get b=h.get b)(k:Row h b l md):Row f b l md:=by obtain⟨t,el,a,c,d⟩:=k;exact⟨t,el,by rw [e];exact a,c,d⟩
theorem Has.of_get{h a:Hp}{b:Nat}{o:Ob}(e:a.get b=h.get b)(k:Has h b o):Has a b o:=by
 cases o with
 |row l d=>exact Row.of_get e k|map f c=>exact e.trans k|loop x=>exact e.trans k|dfr=>exact e.trans k
theorem Has.lt{h:Hp}(a:h.t.Sized h.n){b:Nat}{o:Ob}(k:Has h b o):b<h.n:=by
 cases o with
 |row l d=>exact Row.lt a k|map e c=>exact ik a k|loop x=>exact ik a k|dfr=>exact ik a k
theorem Has.some{h:Hp}{b:Nat}{o:Ob}(k:Has h b o):(h.get b).isSome=true:=by
 cases o with
 |row l d=>obtain⟨t,el,a,_⟩:=k;rw [a];rfl
 |map e c=>rw [show h.get b=_ from k];rfl|loop x=>rw [show h.get b=_ from k];rfl|dfr=>rw [show h.get b=_ from k];rfl

structure Mo(M:Nat->Prop)(h h':Hp):Prop where
 ok0:h.t.Sized h.n
 ok:h'.t.Sized h'.n
 n:h.n<=h'.n
 get: ∀b,b<h.n-> ¬M b->h'.get b=h.get b
 lo: ∀x,x<=h.n->x<=h.lo->(∀b,M b->x<=b)->x<=h'.lo
abbrev NoM:Nat->Prop:=fun _=>False
theorem Gr.fr{M:Nat->Prop}{h a:Hp}(g:Gr h a):Mo M h a:=⟨g.ok0,g.ok,g.n,fun b c _=>g.get b c,fun x d e _=>g.lo x d e⟩
theorem Mo.gr{h a:Hp}(g:Mo NoM h a):Gr h a:=⟨g.ok0,g.ok,g.n,fun b c=>g.get b c (fun x=>x),fun x d e=>g.lo x d e (fun _ h=>h.elim)⟩
theorem Mo.refl{M:Nat->Prop}{h:Hp}(a:h.t.Sized h.n):Mo M h h:=(Gr.refl a).fr
theorem Mo.trans{M M':Nat->Prop}{a b c:Hp}(x:Mo M a b)(y:Mo M' b c)(e: ∀i,M' i->M i\/a.n<=i):Mo M a c:=
 ⟨x.ok0,y.ok,Xl x.n y.n,fun i f g=>(y.get i (Nat.lt_of_lt_of_le f x.n) (fun d=>(e i d).elim g (fun h=>by omega))).trans (x.get i f g),
  fun i k m l=>y.lo i (Xl k x.n) (x.lo i k m l) fun j n=>(e j n).elim (l j) (fun h=>by omega)⟩
theorem Mo.mono{M M':Nat->Prop}{a b:Hp}(x:Mo M a b)(c: ∀i,M i->M' i):Mo M' a b:=
 ⟨x.ok0,x.ok,x.n,fun i d e=>x.get i d (fun h=>e (c i h)),fun i f g k=>x.lo i f g fun j l=>k j (c j l)⟩
theorem Mo.new{M:Nat->Prop}{a h:Hp}(g:Mo M a h)(x:Blk):Mo M a (h.new x):=g.trans (M':=NoM) (Gr.new g.ok x).fr (fun _ h=>h.elim)
theorem Mo.put{M:Nat->Prop}{a h:Hp}(g:Mo M a h){b:Nat}(f:a.n<=b\/M b)(x:Blk):Mo M a (h.put b x):=by refine g.trans (M':=fun i=>i=b) ⟨g.ok,put_ok g.ok b x,Xb _,fun i j c=>dc (fun e=>c e.symm),fun i k l d=>?_⟩ (fun i h=>by grind);show i<=dk b h.lo;have:=d b rfl;grind[dk,Xa]
theorem Mo.has{M:Nat->Prop}{a h:Hp}(g:Mo M a h){b:Nat}{o:Ob}(k:Has a b o)(c: ¬M b):Has h b o:=Has.of_get (g.get b (k.lt g.ok0) c) k

abbrev GL:=Value×Nat×List Value
def fu:GL->Option Nat
 |(.slice (some a) _ _,_,_)=>some a.block|_=>none
def iB(h:Hp)(p:GL):Prop:=(p.1=.slice none 0 0/\p.2.2=[])\/ ∃b n,p.1=.slice (some ⟨b,0,some p.2.1⟩) n n/\n*p.2.1=p.2.2.length/\Row h b p.2.2 1
def keys(L:List (Nat×Ob))(G:List GL):List Nat:=L.map Prod.fst++G.filterMap fu

structure St(M:Nat->Prop)(h0 h:Hp)(L:List (Nat×Ob))(G:List GL):Prop where
 fr:Mo M h0 h
 own: ∀p∈L,(h0.n<=p.1\/M p.1)/\Has h p.1 p.2
 gown: ∀p∈G,iB h p/\ ∀b,fu p=some b->h0.n<=b\/M b
 apart:(keys L G).Nodup

section
variable{M:Nat->Prop}{h0 h:Hp}{L:List (Nat×Ob)}{G:List GL}
theorem iB.of_get{c:Hp}{p:GL}(k:iB h p)(e: ∀b,fu p=some b->c.get b=h.get b):iB c p:=by
 rcases k with k|⟨b,n,a,d,f⟩
 . exact .inl k
 . refine .inr ⟨b,n,a,d,Row.of_get (e b ?_) f⟩;obtain⟨v,k,g⟩:=p;simp only []at a;subst a;rfl
theorem iB.lt(d:h.t.Sized h.n){p:GL}(k:iB h p){b:Nat}(c:fu p=some b):b<h.n:=by
 rcases k with k|⟨j,n,a,e,f⟩
 . obtain⟨v,g,i⟩:=p;obtain⟨a,e⟩:=k;simp only []at a;subst a;cases c
 . obtain⟨v,g,i⟩:=p;simp only []at a;subst a;cases c;exact Row.lt d f
theorem mN{p:Nat×Ob}(a:p∈L):p.1∈keys L G:=List.mem_append_left _ (Xw a)
theorem kX{p:GL}{b:Nat}(a:p∈G)(c:fu p=some b):b∈keys L G:=List.mem_append_right _ (List.mem_filterMap.2 ⟨p,a,c⟩)
theorem St.key_lt(S:St M h0 h L G){b:Nat}(a:b∈keys L G):b<h.n:=by
 unfold keys at a;rcases List.mem_append.1 a with a|a
 . obtain⟨p,c,rfl⟩:=List.mem_map.1 a;exact(S.own p c).2.lt S.fr.ok
 . obtain⟨p,c,d⟩:=List.mem_filterMap.1 a;exact(S.gown p c).1.lt S.fr.ok d
theorem St.init(a:h.t.Sized h.n):St M h h [] []:=⟨Mo.refl a,fun _ h=>(by cases h),fun _ h=>(by cases h),.nil⟩
theorem St.ok(S:St M h0 h L G):h.t.Sized h.n:=S.fr.ok
theorem St.gr(S:St NoM h0 h L G):Gr h0 h:=S.fr.gr
theorem St.push(S:St M h0 h L G){b:Nat}{o:Ob}(d:h0.n<=b\/M b)(e:Has h b o)(c:b∉keys L G):St M h0 h ((b,o)::L) G:=
 ⟨S.fr,fun p a=>by
  rcases List.mem_cons.1 a with rfl|a
  . grind
  . exact S.own p a,S.gown,List.nodup_cons.2 ⟨c,S.apart⟩⟩
theorem St.step(S:St M h0 h L G){M':Nat->Prop}{c:Hp}(f:Mo M' h c)(g: ∀b,M' b->M b\/h0.n<=b)(d: ∀b∈keys L G,¬M' b):St M h0 c L G:=
 ⟨S.fr.trans f g,fun p a=>⟨(S.own p a).1,f.has (S.own p a).2 (d _ (mN a))⟩,
  fun p a=>⟨(S.gown p a).1.of_get fun b e=>f.get b ((S.gown p a).1.lt S.ok e) (d b (kX a e)),(S.gown p a).2⟩,S.apart⟩
theorem St.call(S:St M h0 h L G){a:Hp}(g:Gr h a):St M h0 a L G:=S.step (M':=NoM) g.fr (fun _ h=>h.elim) (fun _ _ h=>h)
theorem St.new(S:St M h0 h L G){x:Blk}{o:Ob}(a:Has (h.new x) h.n o):St M h0 (h.new x) ((h.n,o)::L) G:=
 (S.call (Gr.new S.ok x)).push (.inl S.fr.n) a (fun b=>by have:=S.key_lt b;omega)
theorem St.newG(S:St M h0 h L G){x:Blk}{k n:Nat}{vs:List Value}(d:n*k=vs.length)(f:Row (h.new x) h.n vs 1):St M h0 (h.new x) L ((.slice (some ⟨h.n,0,some k⟩) n n,k,vs)::G):=by
 have a:=S.call (Gr.new S.ok x);refine⟨a.fr,a.own,fun p c=>?_,?_⟩
 . rcases List.mem_cons.1 c with rfl|c
   . exact⟨.inr ⟨_,n,rfl,d,f⟩,fun b g=>by cases g;exact .inl S.fr.n⟩
   . exact a.gown p c
 . unfold keys;have e:List.filterMap fu ((Value.slice (some ⟨h.n,0,some k⟩) n n,k,vs)::G)=h.n::List.filterMap fu G:=rfl;rw [e];refine(List.perm_middle.nodup_iff).2 (List.nodup_cons.2 ⟨fun i=>?_,S.apart⟩);have:=S.key_lt i;omega
theorem St.nilG(S:St M h0 h L G){k:Nat}:St M h0 h L ((.slice none 0 0,k,[])::G):=
 ⟨S.fr,S.own,fun p a=>by
  rcases List.mem_cons.1 a with rfl|a
  . exact⟨.inl ⟨rfl,rfl⟩,fun b c=>by cases c⟩
  . exact S.gown p a,S.apart⟩
theorem mw{a:Type}{l:List a}{i:Nat}{x y:a}(h:y∈l.set i x):y=x\/ ∃j,j≠i/\l[j]? =some y:=by rw [List.mem_iff_getElem?]at h;grind
theorem qL{a:Type}{l:List a}(h:l.Nodup){i j:Nat}{x:a}(b:l[i]? =some x)(c:l[j]? =some x):i=j:=by grind[Xh,Nat.lt_trichotomy,absurd,List.pairwise_iff_getElem]
theorem jV{L:List (Nat×Ob)}{G:List GL}{i:Nat}{p:Nat×Ob}(a:L[i]? =some p):(keys L G)[i]? =some p.1:=by grind[keys,Xh,Xr]
theorem St.put(S:St M h0 h L G){i b:Nat}{o o':Ob}(g:L[i]? =some (b,o)){x:Blk}(q:Has (h.put b x) b o'):St M h0 (h.put b x) (L.set i (b,o')) G:=by
 have k:=S.own _ (zM g);have f:(keys L G)[i]? =some b:=jV g;refine⟨S.fr.put k.1 x,fun p a=>?_,fun p a=>⟨(S.gown p a).1.of_get fun c l=>?_,(S.gown p a).2⟩,?_⟩
 . rcases mw a with rfl|⟨j,m,a⟩
   . grind
   . have d:=S.own p (zM a);refine⟨d.1,d.2.of_get (dc fun e=>m ?_)⟩;have n:(keys L G)[j]? =some b:=(by rw [jV a];rw [e]);exact qL S.apart n f
 . refine dc fun e=>?_;subst e;have d:=S.apart;unfold keys at d;rw [List.nodup_append]at d;exact d.2.2 b (List.mem_map.2 ⟨_,zM g,rfl⟩) b (List.mem_filterMap.2 ⟨p,a,l⟩) rfl
 . have:keys (L.set i (b,o')) G=keys L G:=(by unfold keys;congr 1;rw [List.map_set];refine List.ext_getElem? fun j=>?_;grind);rw [this];exact S.apart
theorem St.row(S:St M h0 h L G){b:Nat}{l:List Value}{md:Nat}(a:(b,Ob.row l md)∈L):Row h b l md:=(S.own _ a).2
theorem St.ld(S:St M h0 h L G){b o:Nat}{l:List Value}{md:Nat}{v:Value}(a:(b,Ob.row l md)∈L)(c:l[o]? =some v):h.load b o 1=some [v]:=(S.row a).load1 c
theorem St.lds(S:St M h0 h L G){b o n:Nat}{l:List Value}{md:Nat}(a:(b,Ob.row l md)∈L)(c:o+n<=l.length):h.load b o n=some ((l.drop o).take n):=(S.row a).load c
theorem m0{b:Type}{a:b}{l:List b}:a∈a::l:=Xn
theorem m1{c:Type}{a b:c}{l:List c}:a∈b::a::l:=.tail _ m0
theorem m2{d:Type}{a b c:d}{l:List d}:a∈b::c::a::l:=.tail _ m1
theorem m3{e:Type}{a b c d:e}{l:List e}:a∈b::c::d::a::l:=.tail _ m2
theorem m4{f:Type}{a b c d e:f}{l:List f}:a∈b::c::d::e::a::l:=.tail _ m3
theorem m5{g:Type}{a b c d e f:g}{l:List g}:a∈b::c::d::e::f::a::l:=.tail _ m4
theorem m6{i:Type}{a b c d e f g:i}{l:List i}:a∈b::c::d::e::f::g::a::l:=.tail _ m5
theorem m7{j:Type}{a b c d e f g i:j}{l:List j}:a∈b::c::d::e::f::g::i::a::l:=.tail _ m6
theorem St.old(S:St M h0 h L G){b o n:Nat}{l:List Value}(e:h0.load b o n=some l)(a: ¬M b):h.load b o n=some l:=by have:=S.fr.get b (bJ S.fr.ok0 e) a;grind[Hp.load]
end
end Go.Ab

namespace Go.Ab

def pM(h:Hp)(X:Hp->Option (dw×Hp))(F:Nat->Value)(o:Ob):Prop:=
 ∃a,(∀x,X {h with lo:=x}=some (.val (F h.n),({h with lo:=x}:Hp).new a))/\(h.t.Sized h.n->Has (h.new a) h.n o)
section
variable{M:Nat->Prop}{h0 h:Hp}{L:List (Nat×Ob)}{G:List GL}
section
variable{E:Env}{cx:Cx}{o:Oper}{l:Loc}{K:Ex->Loc->Hp->Prop}{X:Hp->Option (dw×Hp)}{F:Nat->Value}{ob:Ob}
theorem ac(N:pM h X F ob)(S:St M h0 h L G)(c: ∀a b,St M h0 a ((b,ob)::L) G->h0.n<=b->K .normal (l.put o.dst (F b)) a):fD E cx o l K (X h):=by obtain⟨d,f,g⟩:=N;have e:X h=_:=f h.lo;rw [e];exact c _ _ (S.new (g S.ok)) S.fr.n
theorem ec{cx:Cx}{Q:fq}{a:List Oper}{q:Nat}{ps:List (Nat×Nat)}{os:List Oper}{i:Nat}{k:List Fr}{c:List (Nat×Tch)}(N:pM h X F ob)(S:St M h0 h L G)
 (e: ∀d b,St M h0 d ((b,ob)::L) G->h0.n<=b->b=h.n->Run E (lim E) cx Q (.opsD a q ps os (i+1) c::k) .normal (l.put o.dst (F b)) d):DQ E cx Q a q ps o os i k l h c (X {h with lo:=h.n}):=by
 obtain⟨f,g,j⟩:=N;rw [g];exact⟨zO (Xb _),e _ _ (S.new (j S.ok)) S.fr.n rfl⟩
end
theorem bR{v:Value}{t:TypeId}(b: ∀x,v≠ .chan x):pM h (fun h=>boxR h t v) ptrTo (.row (ae v) 1):=by refine⟨.cells (Tr.ofList (ae v)) (ae v).length t 1,fun x=>?_,fun a=>nH a _ _ _⟩;cases v<;>first|rfl|grind
theorem au{z:List Value}{t:TypeId}:pM h (fun h=>allocR h t (some z)) ptrTo (.row z 1):=
 ⟨.cells (Tr.ofList z) z.length t 1,fun _=>rfl,fun a=>nH a _ _ _⟩
noncomputable def mapR(h:Hp):Option (dw×Hp):=some (.val (.map (some h.n)),h.new (.map [] 0))
theorem C6{E:Env}{ρ:Operand->Value}{h:Hp}{t:TypeId}:aop E ρ h (.makeMap t none)=mapR h:=rfl
theorem uC:pM h mapR (fun b=>.map (some b)) (.map [] 0):=⟨.map [] 0,fun _=>rfl,fun a=>by show(h.new _).get h.n=_;rw [h.get_new _ a,if_pos rfl]⟩
theorem Bx(a:List Value): ∀n,(aU a n).length=n*a.length
 |0=>by simp [aU]|n+1=>by simp only [aU,Xo,Bx a n];rw [Nat.succ_mul];omega
theorem row_blank{h:Hp}(a:h.t.Sized h.n)(z:Value)(n:Nat)(e:TypeId):Row (h.new (.cells (Tr.blank z n n) n e 1)) h.n (Xg n z) 1:=by
 refine⟨Tr.blank z n n,e,?_,?_,fun i=>?_⟩
 . rw [h.get_new _ a,if_pos rfl,Xv]
 . rw [Xv];exact Tr.sized_blank _ _ _ (Xb _)
 . rw [Tr.get_blank _ _ _ (Xb _),Xt]
def dP(E:Env)(e:TypeId)(a k:Nat)(b:List Value):Prop:=(∃i,E.ty e=some i/\i.bytes=a/\i.size=k)/\E.zero e=some b/\b.length=k
theorem kC{E:Env}{t e:TypeId}{d k:Nat}{c:List Value}{kd kd':IntKind}{n:Int}(o:E.und t=some (.slice e))(u:dP E e d k c)(h0:0<=n)(v:n.toNat*(d+1)<=70368744177664):
 pM h (fun h=>cU (jz E h t (.int kd n) (.int kd' n))) (fun b=>.slice (some ⟨b,0,none⟩) n.toNat n.toNat) (.row (aU c n.toNat) 1):=by
 obtain⟨⟨i,p,rfl,rfl⟩,q,w⟩:=u;obtain⟨m,rfl⟩:=Int.eq_ofNat_of_zero_le h0;have hle:Xa (m*(i.bytes+1)) 70368744177664=true:=zO v;have r:Xc c.length i.size=true:=by simp_all
 have f:natV (.int kd (m:Int))=some m:=rfl;have g:natV (.int kd' (m:Int))=some m:=rfl;have s:(Xa m m&&Xa (m*(i.bytes+1)) 70368744177664)=true:=by simp_all
 by_cases y: ∃z,c=[z]
 . obtain⟨z,rfl⟩:=y;refine⟨.cells (Tr.blank z m m) m e 1,fun x=>?_,fun j=>?_⟩
   . simp only [jz,o,p,q,f,g,s,r,cond_true,cU];rfl
   . have:aU [z] (m:Int).toNat=Xg m z:=by
      have: ∀n,aU [z] n=Xg n z:=by intro n;induction n with
       |zero=>rfl|succ n A=>simp [aU,A,List.replicate_succ]
      exact this m
     rw [this];exact row_blank j z m e
 . refine⟨.cells (Tr.ofList (aU c m)) (m*i.size) e 1,fun x=>?_,fun j=>?_⟩
   . simp only [jz,o,p,q,f,g,s,r,cond_true];cases c with
     |nil=>rfl| cons a l=>
       cases l with
       |nil=>grind|cons b l=>rfl
   . have:=nH j (aU c m) e 1;rw [Bx,w]at this;show Row _ _ (aU c m) 1;omega

theorem St.store(S:St M h0 h L G){E:Env}{t:TypeId}{i b off n md:Nat}{s:Option Nat}{l:List Value}{v:Value}(d:L[i]? =some (b,.row l md))(j:E.sz t=some n)(k: ∀x,v≠ .chan x)(e:(ae v).length=n)
 (hf:(ae v).all iQ=true) (f:off+n<=l.length) (a:md≠0): ∃c,jm E h t (.pointer (some ⟨b,off,s⟩)) v=some c/\St M h0 c (L.set i (b,.row (lay l off (ae v)) md)) G/\Mo (· =b) h c:=by
 subst e;obtain⟨x,m,g⟩:=(S.row (zM d)).store S.ok a (vs:=ae v) f hf;refine⟨h.put b x,?_,S.put d g,(Mo.refl (M:=(· =b)) S.ok).put (.inr rfl) x⟩;grind[jm,Xc,ae,Xk]
section
variable{E:Env}{cx:Cx}{o:Oper}{l:Loc}{K:Ex->Loc->Hp->Prop}
theorem aw{x:Option Hp}{P:Hp->Prop}(b: ∃a,x=some a/\P a)(c: ∀a,P a->K .normal (l.put o.dst (.tuple #[])) a):fD E cx o l K (fj x):=by obtain⟨a,rfl,d⟩:=b;exact c a d
theorem dX{x:Option (Hp×Value)}{P:Hp->Value->Prop}(b: ∃a v,x=some (a,v)/\P a v)(c: ∀a v,P a v->K .normal (l.put o.dst v) a):fD E cx o l K (cU x):=by obtain⟨a,v,rfl,d⟩:=b;exact c a v d
theorem dN{cx:Cx}{Q:fq}{a:List Oper}{q:Nat}{ps:List (Nat×Nat)}{os:List Oper}{i:Nat}{k:List Fr}{c:Hp->List (Nat×Tch)}{x:Option Hp}{P:Hp->Prop}(d: ∃b,x=some b/\P b)
 (e: ∀b,P b->Run E (lim E) cx Q (.opsD a q ps os (i+1) (c b)::k) .normal (l.put o.dst (.tuple #[])) b):DN E cx Q a q ps o os i k l c (fj x):=by
 obtain⟨b,rfl,f⟩:=d;exact e b f
theorem jG{cx:Cx}{Q:fq}{a:List Oper}{q:Nat}{ps:List (Nat×Nat)}{os:List Oper}{i:Nat}{k:List Fr}{c:Hp->List (Nat×Tch)}{x:Option (Hp×Value)}{P:Hp->Value->Prop}(d: ∃b v,x=some (b,v)/\P b v)
 (e: ∀b v,P b v->Run E (lim E) cx Q (.opsD a q ps os (i+1) (c b)::k) .normal (l.put o.dst v) b):DN E cx Q a q ps o os i k l c (cU x):=by
 obtain⟨b,v,rfl,f⟩:=d;exact e b v f
end

theorem qT{L:List (Nat×Ob)}{G:List GL}{j:Nat}{p c:GL}(i:(keys L G).Nodup)(d:G[j]? =some p){b:Nat}(e:fu c=some b)(a:b∉keys L G):(keys L (G.set j c)).Nodup:=by
 obtain⟨hlt,f⟩:=List.getElem?_eq_some_iff.1 d;have k:G=G.take j++p::G.drop (j+1):=by rw [<-f,List.getElem_cons_drop hlt,List.take_append_drop]
 have g:G.set j c=G.take j++c::G.drop (j+1):=List.set_eq_take_append_cons_drop.trans (if_pos hlt);unfold keys at*
 rw [g,List.filterMap_append,List.filterMap_cons_some e,<-List.append_assoc];refine List.perm_middle.nodup_iff.2 (List.nodup_cons.2 ⟨fun l=>a ?_,?_⟩)
 . grind
 grind
theorem St.grow (S:St M h0 h L G) {E:Env} {t tx e:TypeId} {u k j m:Nat} {zs vs new:List Value} {v x:Value} (K:G[j]? =some (v,k,vs)) (hu:E.und t=some (.slice e)) (he:dP E e u k zs) (N:0<u)
 (P:dV E tx=some false) (af:aC h k x=some (m,new)) (hm:m*k=new.length) (z:0<k) (hf:new.all iQ=true) (Q:(vs.length+new.length)*(u+1)<=70368744177664) {ts:List TypeId}:
 ∃A v',du E h (t::tx::ts) v x=some (A,v')/\St M h0 A L (G.set j (v',k,vs++new)):=by
 obtain⟨⟨i,hi,rfl,rfl⟩,hz,hl⟩:=he;have hlt:=(List.getElem?_eq_some_iff.1 K).1;obtain⟨hg,B⟩:=S.gown _ (zM K);have ai : ∀ a d,v=.slice a d d->d*i.size=vs.length->(a=none/\d=0\/ ∃b,a=some ⟨b,0,some i.size⟩/\Row h b vs 1)->
  ∃A v',fK E h e i a d d m new=some (A,v')/\St M h0 A L (G.set j (v',i.size,vs++new)):=by
  intro a d hv C ha;by_cases f:m=0
  . subst f;have:new=[]:=(by grind);subst this;refine⟨h,v,?_,?_⟩
    . unfold fK;rw [zO (by omega:d+0<=d)];grind
    . rw [List.append_nil];have:G.set j (v,i.size,vs)=G:=(by refine List.ext_getElem? fun n=>?_;grind);grind
  . have ak : Xa (d+m) d=false:=by
     cases P:Xa (d+m) d with
     |false=>rfl|true=>exact absurd (Nat.le_of_ble_eq_true P) (by omega)
    have D:d+m<=vs.length+new.length:=(by rw [<-C,<-hm];have f:=Xu d z;have R:=Xu m z;omega);have O:(Xa ((d+m)*(i.bytes+1)) 70368744177664&&Xs 0 i.bytes)=true:=(by rw [zO (Xl (Nat.mul_le_mul_right _ D) Q)];simp_all);have aL:Xc zs.length i.size=true:=(by simp_all);have r:fK E h e i a d d m new=oL h e i.size a d m new:=(by unfold fK;grind);rw [r];rcases ha with⟨rfl,rfl⟩|⟨b,rfl,F⟩
    . have T:vs=[]:=(by grind);subst T;refine⟨h.new (.cells (Tr.ofList new) new.length e 1),.slice (some ⟨h.n,0,some i.size⟩) m m,rfl,?_⟩;have U:=S.call (Gr.new S.ok (.cells (Tr.ofList new) new.length e 1));have w:h.n∉keys L G:=fun z=>(by have:=S.key_lt z;omega);refine⟨U.fr,U.own,fun p o=>?_,qT S.apart K (b:=h.n) rfl w⟩;rcases mw o with rfl|⟨j',_,o⟩
      . exact⟨.inr ⟨h.n,m,rfl,hm,nH S.ok new e 1⟩,fun b N=>by cases N;exact .inl S.fr.n⟩
      . exact U.gown p (zM o)
    . obtain ⟨H,el,s,I,a0⟩:=F;have V:jJ H vs.length 0 (d*i.size) new=some (H.pushAll vs.length new,vs.length+new.length):=(by grind[jJ,Xk]);refine⟨(h.put b .dead).new (.cells (H.pushAll vs.length new) (vs.length+new.length) e 1),.slice (some ⟨h.n,0,some i.size⟩) (d+m) (d+m),?_,?_⟩
      . unfold oL;simp only [s,V,hf,Xk];rfl
      . have J:fu (v,i.size,vs)=some b:=(by rw [hv];rfl);have a1:=ik S.ok s;have y:=(S.fr.put (B b J) .dead);have W: ∀c∈L.map Prod.fst,c≠b:=fun c X e=>(by have f:=S.apart;grind[keys,List.nodup_append,zM]);have l: ∀c,c<h.n->c≠b->((h.put b .dead).new (.cells (H.pushAll vs.length new) (vs.length+new.length) e 1)).get c=h.get c:=fun c X Y=>(by rw [Hp.get_new _ _ y.ok,if_neg (by show c≠h.n;omega)];exact dc (Ne.symm Y));have w:h.n∉keys L G:=fun z=>(by have:=S.key_lt z;omega);refine⟨y.new _,fun p o=>?_,fun p o=>?_,qT S.apart K (b:=h.n) rfl w⟩
        . have f:=S.own p o;exact⟨f.1,f.2.of_get (l _ (f.2.lt S.ok) (W _ (Xw o)))⟩
        . rcases mw o with rfl|⟨j',Z,o⟩
          . refine⟨.inr ⟨h.n,d+m,rfl,?_,?_⟩,fun b N=>by cases N;exact .inl S.fr.n⟩
            . grind
            . refine⟨H.pushAll vs.length new,e,?_,?_,fun n=>?_⟩
              . rw [Hp.get_new _ _ y.ok];rw [if_pos (show h.n=(h.put b .dead).n from rfl),Xo]
              . rw [Xo];exact Tr.sized_pushAll _ I
              grind[Tr.get_pushAll]
          . have f:=S.gown p (zM o);refine⟨f.1.of_get fun c X=>l c (f.1.lt S.ok X) fun e=>Z ?_,f.2⟩;subst e
            -- two lists with a2 ad
            have R:=S.apart;unfold keys at R;have h3:=(List.nodup_append.1 R).2.1;have a3: ∀(G:List GL) (a c:Nat) (p q:GL),(G.filterMap fu).Nodup->G[a]? =some p->G[c]? =some q-> ∀x,fu p=some x->fu q=some x->a=c:=by
             intro G
             induction G with
             |nil=>grind| cons g G ih=>grind
            grind
 unfold du;simp only [P];unfold jY;simp only [hu,hi];rcases hg with⟨k1,k2⟩|⟨b,n,k1,k2,k3⟩
 . grind
 simp_all
end
end Go.Ab

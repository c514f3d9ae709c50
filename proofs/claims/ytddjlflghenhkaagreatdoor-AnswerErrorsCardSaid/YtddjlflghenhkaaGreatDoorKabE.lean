/- A deterministic evaluator of the model's code, and that the model follows it (part 5). -/
import Derived.Test.YtddjlflghenhkaaGreatDoorKabD
import Derived.ChangeSame
import Derived.RowKit3
import Derived.JoinedOf
import Derived.KernelRfl
import Derived.WalkKit
import Derived.ProofKit
import Derived.OpenShut
import Derived.Carry
open Iff renaming rfl->zM
open List renaming mem_of_getElem?->zO,map_congr_left->Xg,replicate->Xh,getElem?_eq_some_iff->Xi,mem_cons_self->Xo,length_append->Xp,getElem?_map->Xq,drop_eq_getElem_cons->Xr,getElem?_append_left->Xs,getElem?_replicate->Xu,length_replicate->Xw,mem_map_of_mem->Xx
open Nat renaming ble_eq_true_of_le->Xa,ble->Xb,le_refl->Xc,beq->Xd,eq_of_beq_eq_true->Xe,beq_refl->Xl,le_trans->Xm,lt_or_ge->Xn,blt->Xt,le_mul_of_pos_right->Xv
open Bool renaming and_eq_true->Xf
open Array renaming getElem?_eq_getElem->Xj
open Option renaming map_eq_some_iff->Xk
set_option maxHeartbeats 400000
set_option linter.defProp false
set_option linter.unusedVariables false
set_option linter.unusedSimpArgs false
namespace Go.Ab
variable{b i id j md n q:Nat}
variable{args l vs:List Value}
variable{h h':Hp}
variable{a os:List Oper}
variable{v:Value}
variable{c x y:Operand}
variable{ops:Array Oper}
variable{o:Oper}
variable{ps:List (Nat×Nat)}
variable{P:Program}
variable{f:FuncId}
variable{E:Env}
variable{op:Op}
variable{ρ:Operand->Value}
variable{cx:Cx}
variable{e s t:TypeId}
variable{m:Int}
variable{k:IntKind}
variable{W:World}
variable{M:Nat->Prop}
def tabF:Nat->Nat->(Nat->Value)->Tr Value
 |0,_,_=>.nil| f+1,n,a=>match n with
   |0=>.nil|k+1=>.node (a 0) (tabF f ((k+1)/2) fun i=>a (2*i+1)) (tabF f (k/2) fun i=>a (2*i+2))
def tab(n:Nat)(ρ:Nat->Value):Tr Value:=tabF n n ρ
theorem get_tabF(f n:Nat)(ρ:Nat->Value)(h:n<=f)(j:Nat):(tabF f n ρ).get j=if j<n then some (ρ j)else none:=by
 induction f generalizing n j ρ with
 |zero=>grind[tabF,Tr.get_nil]| succ f a=>
   cases n with
   |zero=>rfl| succ k=>simp only [tabF];rw [Tr.get_node];grind
theorem nU(n:Nat)(ρ:Nat->Value)(j:Nat):(tab n ρ).get j=if j<n then some (ρ j)else none:=get_tabF n n ρ (Xc _) j
theorem Tr.ext{d:Type}{t t':Tr d}(h: ∀i,t.get i=t'.get i):t=t':=by
 induction t generalizing t' with
 | nil=>
   cases t' with
   |nil=>rfl|node y l r=>have:=h 0;simp [Tr.get_nil,Tr.get_node]at this
 | node x l r a b=>
   cases t' with
   |nil=>have:=h 0;simp [Tr.get_nil,Tr.get_node]at this| node y e f=>
     have c:=h 0;simp [Tr.get_node]at c;subst c;rw [a (t':=e) (fun i=>by have:=h (2*i+1);simp_all[Tr.get_node,if_pos]),
      b (t':=f) (fun i=>by have:=h (2*i+2);simp only [Tr.get_node]at this;grind)]
def aB(ρ:Nat->Value)(t:Nat)(v:Value):Nat->Value:=fun i=>if i=t then v else ρ i
theorem aD(ρ:Nat->Value)(t:Nat)(v:Value)(i:Nat):aB ρ t v i=if i=t then v else ρ i:=rfl
theorem tab_set(n:Nat)(ρ:Nat->Value)(t:Nat)(v:Value):(tab n ρ).set t v=tab n (aB ρ t v):=by
 apply Tr.ext;intro i;rw [Tr.get_set,nU,nU];by_cases a:i<n
 . by_cases e:t=i
   . subst e;simp [a,aB]
   . simp [a,e,aB,Ne.symm e]
 . simp [a]
def dh:List Value->Nat->Value
 | [],_=>.tuple #[]| v::l,i=>match i with
   |0=>v|i+1=>dh l i
theorem argR_eq(l:List Value)(i:Nat):dh l i=(l[i]?).getD (.tuple #[]):=by
 induction l generalizing i with
 |nil=>rfl| cons v l a=>cases i with
   |zero=>rfl|succ i=>simp [dh,a]
theorem args_tab(h:args.length<=n):(Tr.blank (.tuple #[]) n n:Tr Value).setAll 0 args=tab n (dh args):=by apply Tr.ext;intro i;rw [Tr.get_setAll _ 0 args n (Tr.sized_blank _ _ _ (Xc _)) (by omega),nU,Tr.get_blank _ _ _ (Xc _),argR_eq];grind
def LL(n:Nat)(ρ:Nat->Value)(d:List Deferred)(rc:Option (Value×Bool)):Loc:=⟨tab n ρ,d,rc⟩
theorem bW(n:Nat)(ρ:Nat->Value)(d:List Deferred)(rc:Option (Value×Bool))(t:Nat)(v:Value):(LL n ρ d rc).put (some t) v=LL n (aB ρ t v) d rc:=by simp only [LL,Loc.put,tab_set]
theorem ll_put0(l:Loc)(v:Value):l.put none v=l:=rfl
theorem bF(n:Nat)(ρ:Nat->Value)(d:List Deferred)(rc:Option (Value×Bool))(t:Nat)(h:t<n):(LL n ρ d rc).ev (.tmp t)=ρ t:=by simp only [LL,Loc.ev,nU,if_pos h]
theorem ll_func(l:Loc)(f:Nat):l.ev (.func f)=.func (.func f) #[] #[]:=rfl
theorem ll_regs(n:Nat)(ρ:Nat->Value)(d:List Deferred)(rc:Option (Value×Bool)):(LL n ρ d rc).regs=tab n ρ:=rfl
def Then(x:Option (Ex×Loc×Hp))(K:Ex->Loc->Hp->Prop):Prop:= ∃e l h,x=some (e,l,h)/\K e l h
theorem jq{e:Ex}{l:Loc}{K:Ex->Loc->Hp->Prop}:Then (some (e,l,h)) K↔K e l h:=by
 constructor
 . intro⟨_,_,_,h1,a⟩;grind
 . intro a;exact⟨_,_,_,rfl,a⟩
abbrev gp:=Ex->Loc->Hp->Prop
inductive Fr where
 |code (c:Code)
 |blk (id:Nat)
 |ops (all os:List Oper)
 |opsD (all:List Oper) (q:Nat) (ps:List (Nat×Nat)) (os:List Oper) (i:Nat) (tr:List (Nat×Tch))
 |kill (t:Tmp)
section
variable(E:Env)(R:Rec)(cx:Cx)(Q:gp)
def Run:List Fr->Ex->Loc->Hp->Prop
 | [],e,l,h=>Q e l h| .code c::k,.normal,l,h=> ∃g d f,aP E R cx c l h=some (g,d,f)/\Run k g d f| .ops a m::k,.normal,l,h=> ∃g d f,je E R cx a m l h=some (g,d,f)/\Run k g d f| .opsD a q n m i o::k,.normal,l,h=> ∃d f j,bZ E R a q m i l h o=some (d,f,j)/\cR j n=true/\Run k .normal d f| .kill t::k,.normal,l,h=> ∃b p c,l.ev (.tmp t)=.map (some b)/\h.get b=some (.map p c)/\Run k .normal l (h.put b .dead)| .blk _::k,.normal,l,h=>Run k .normal l h| .blk id::k,.exit i,l,h=>if i=id then Run k .normal l h else Run k (.exit i) l h
 |_::k,.exit i,l,h=>Run k (.exit i) l h|_::k,.ret,l,h=>Run k .ret l h|_::k,.pan v,l,h=>Run k (.pan v) l h
end
section
variable{E:Env}{R:Rec}{cx:Cx}{Q:gp}{k:List Fr}{l:Loc}{h:Hp}
theorem run_nil{e:Ex}:Run E R cx Q [] e l h↔Q e l h:=zM
theorem run_skip:Run E R cx Q (.code .skip::k) .normal l h↔Run E R cx Q k .normal l h:=by simp only [Run,aP];exact jq
theorem run_seq{a b:Code}:Run E R cx Q (.code (.seq a b)::k) .normal l h↔Run E R cx Q (.code a:: .code b::k) .normal l h:=by
 simp only [Run,aP];constructor
 . intro⟨e',l',h',c,h2⟩;cases e:aP E R cx a l h with
   |none=>grind| some q=>
     obtain⟨x,f,d⟩:=q;rw [e]at c;refine⟨x,f,d,rfl,?_⟩;cases x with
     |normal=>exact⟨e',l',h',c,h2⟩|exit i=>cases c;exact h2
     |ret=>cases c;exact h2
     |pan v=>cases c;exact h2
 . intro⟨x,f,d,e,h2⟩;rw [e];cases x with
   |normal=>exact h2|exit i=>exact⟨_,_,_,rfl,h2⟩|ret=>exact⟨_,_,_,rfl,h2⟩|pan v=>exact⟨_,_,_,rfl,h2⟩
theorem run_block  {b:Code}:Run E R cx Q (.code (.block id b)::k) .normal l h↔Run E R cx Q (.code b:: .blk id::k) .normal l h:=by
 simp only [Run,aP];constructor
 . intro ⟨e',l',h',a,h2⟩;cases e:aP E R cx b l h with
   |none=>grind| some q=>
     obtain⟨x,f,c⟩:=q;rw [e]at a;refine⟨x,f,c,rfl,?_⟩;cases x with
     |normal=>cases a;exact h2
     | exit i=>
       simp only []at a;cases d:Xd i id with
       |true=>simp_all[Xe,Run,if_true]| false=>
         rw [d]at a;cases a;simp only [Run];rw [if_neg (by grind[Xl])];exact h2
     |ret=>cases a;exact h2
     |pan v=>cases a;exact h2
 . intro⟨x,f,c,e,h2⟩;rw [e];cases x with
   |normal=>exact⟨_,_,_,rfl,h2⟩| exit i=>
     simp only [Run]at h2;simp only [];by_cases d:i=id
     . subst d;rw [if_pos rfl]at h2;rw [Xl];grind
     . rw [if_neg d]at h2;have:Xd i id=false:=(by grind[Xd,id,absurd,Xe]);grind
   |ret=>exact⟨_,_,_,rfl,h2⟩|pan v=>exact⟨_,_,_,rfl,h2⟩
theorem run_scope{b:Code}:Run E R cx Q (.code (.scope b)::k) .normal l h↔Run E R cx Q (.code b::k) .normal l h:=zM
theorem run_blk:Run E R cx Q (.blk id::k) .normal l h↔Run E R cx Q k .normal l h:=zM
theorem run_exit:Run E R cx Q (.code (.exit id)::k) .normal l h↔Run E R cx Q k (.exit id) l h:=by simp only [Run,aP];exact jq
theorem run_ret:Run E R cx Q (.code .ret::k) .normal l h↔Run E R cx Q k .ret l h:=by simp only [Run,aP];exact jq
theorem AR:Run E R cx Q (.blk id::k) (.exit i) l h↔if i=id then Run E R cx Q k .normal l h else Run E R cx Q k (.exit i) l h:=zM
theorem AJ{c:Code}:Run E R cx Q (.code c::k) (.exit i) l h↔Run E R cx Q k (.exit i) l h:=zM
theorem AX:Run E R cx Q (.ops a os::k) (.exit i) l h↔Run E R cx Q k (.exit i) l h:=zM
theorem EJ{f:Fr}:Run E R cx Q (f::k) .ret l h↔Run E R cx Q k .ret l h:=by cases f<;>exact zM
theorem Dy{f:Fr}:Run E R cx Q (f::k) (.pan v) l h↔Run E R cx Q k (.pan v) l h:=by cases f<;>exact zM
theorem run_cond{a b:Code}:Run E R cx Q (.code (.cond c a b)::k) .normal l h↔ ∃t,l.ev c=.bool t/\if t=true then Run E R cx Q (.code a::k) .normal l h else Run E R cx Q (.code b::k) .normal l h:=by simp only [Run,aP];grind
theorem Ed:Run E R cx Q (.code (.region id ops false)::k) .normal l h↔Run E R cx Q (.ops ops.toList ops.toList::k) .normal l h:=by rfl
theorem C4:Run E R cx Q (.ops a []::k) .normal l h↔Run E R cx Q k .normal l h:=by simp only [Run,je];exact jq
theorem Cu:Run E R cx Q (.ops a (o::os)::k) .normal l h↔ ∃b,cJ a l.regs o=some b/\
 (if b=true then Then (eY E R cx o l h) fun e l' h'=>Run E R cx Q (.ops a os::k) e l' h' else Run E R cx Q (.ops a os::k) .normal (l.put o.dst (.tuple #[])) h):=by
 simp only [Run,je];constructor
 . intro ⟨e',l',h',d,c⟩;cases g:cJ a l.regs o with
   |none=>grind| some b=>
     rw [g]at d;refine⟨b,rfl,?_⟩;cases b with
     |false=>grind| true=>
       rw [if_pos rfl];simp only []at d;cases j:eY E R cx o l h with
       |none=>grind| some q=>
         obtain⟨x,m,f⟩:=q;rw [j]at d;refine⟨x,m,f,rfl,?_⟩;cases x with
         |normal=>exact⟨e',l',h',d,c⟩|exit i=>cases d;exact c
         |ret=>cases d;exact c
         |pan v=>cases d;exact c
 . intro⟨b,g,c⟩;rw [g];cases b with
   |false=>grind| true=>
     rw [if_pos rfl]at c;obtain⟨x,m,f,j,c⟩:=c;simp only [j];cases x with
     |normal=>exact c|exit i=>exact⟨_,_,_,rfl,c⟩|ret=>exact⟨_,_,_,rfl,c⟩|pan v=>exact⟨_,_,_,rfl,c⟩
theorem run_draw(a:E.cut cx.fn=false)(b:cu ops.toList=os)(c:jT E os=some (q,ps)):Run E R cx Q (.code (.region id ops true)::k) .normal l h↔Run E R cx Q (.opsD os q ps os 0 []::k) .normal l h:=by simp only [Run,aP,cond_true,a,cond_false,b,c];grind
theorem run_split(a:E.cut cx.fn=true)(b:lu ops.toList (ops.toList.length-1)=true)(hf:uH E ops.toList=false)(c:cutN ops.toList=n)(d:cu (ops.toList.take n)=os)(e:jT E os=some (q,ps))
 (f:Run E R cx Q (.opsD os q ps os 0 []:: .ops ops.toList (ops.toList.drop n)::k) .normal l h):Run E R cx Q (.code (.region id ops true)::k) .normal l h:=by
 obtain⟨o,p,g,i,j,r,s,t,m,u⟩:=f;simp only [Run,aP,cond_true,a,cutD,hf,cond_false,uI,b,c,d,e,i,j];grind
theorem BW{b:List (Nat×Tch)}:Run E R cx Q (.opsD a q ps [] i b::k) .normal l h↔cR b ps=true/\Run E R cx Q k .normal l h:=by simp only [Run,bZ];grind
theorem AE{c:List (Nat×Tch)}:Run E R cx Q (.opsD a q ps (o::os) i c::k) .normal l h↔ ∃b,cJ a l.regs o=some b/\
 (if b=true then∃v h',di E R (l.evD (tmpsOf o.op.operands.toList)) (fF E q i o.op) o h=some (v,h')/\
     Run E R cx Q (.opsD a q ps os (i+1) (iR i c (cQ (l.evD (tmpsOf o.op.operands.toList)) (fF E q i o.op) o.op h h'))::k) .normal (l.put o.dst v) h'
   else Run E R cx Q (.opsD a q ps os (i+1) c::k) .normal (l.put o.dst (.tuple #[])) h):=by
 simp only [Run,bZ];grind
end
noncomputable def envOf(a:Tr Func)(b:Tr TypeInfo)(c:List Nat):Env:={fn:=fun f=>a.get f,ty:=fun t=>b.get t,eqok:=fun t=>oS t c}
theorem By{b:Func}(hf:P.funcs[f]? =some b)(e:b.body.isSome=true)(c:(b.name== "runtime.NumGoroutine")=false)(args:Array Value)(w:World):
 (callFunc f args).run P w=.ok (.enter f args) w:=by
 have a:b.body.isNone=false:=by cases h:b.body<;>simp_all
 unfold callFunc;have d:program.run P w=.ok P w:=rfl;simp only [Sem.run_bind,d,Result.andThen_ok,hf,c,a,Bool.false_eq_true,if_false,Sem.run_pure]
theorem eok_of{fns:Tr Func}{tys:Tr TypeInfo}{eqs:List Nat}(h1:fns=Tr.ofList P.funcs.toList)(h2:tys=Tr.ofList P.types.toList)
 (h3:(P.funcs.toList.all fun fn=>fn.body.isNone|| !(fn.name== "runtime.NumGoroutine"))=true) (h4:(eqs.all fun t=>!P.stoodInHeld t&& !P.eqGuardType P.depth t)=true)
 (h5:P.follows .mixedOrders=true):EOk (envOf fns tys eqs) P where
 fn:=by intro f fn h;have h':fns.get f=some fn:=h;rw [h1,Tr.get_ofList]at h';simpa using h'
 call:=by
  intro f fn args w h hb;have h':fns.get f=some fn:=h;rw [h1,Tr.get_ofList]at h';have hm:=zO h';have:=(List.all_eq_true.1 h3) fn hm;refine By (by simpa using h') hb ?_ args w;cases hn:(fn.name== "runtime.NumGoroutine")with
  |false=>rfl|true=>rw [hn]at this;cases hx:fn.body<;>simp_all
 ty:=by
  intro t i h;have h':tys.get t=some i:=h;rw [h2,Tr.get_ofList]at h';show P.toTables.info? t=some i;have hk:P.types[t]? =some i:=by simpa using h'
  unfold Tables.info?;rw [if_pos (Array.getElem?_eq_some_iff.1 hk).1];exact hk
 eq:=by intro t h;have hm:t∈eqs:=(oW t eqs).1 h;have:=(List.all_eq_true.1 h4) t hm;simp only [Xf,Bool.not_eq_true']at this;exact this
 mixed:=h5
 orc:=by intro g args v h;cases h
noncomputable def za(E:Env)(o:Nat->List Value->Option Value):Env:={E with orc:=o}
noncomputable def withCut(E:Env)(c:Nat->Bool):Env:={E with cut:=c}
theorem eok_cut(ok:EOk E P)(c:Nat->Bool):EOk (withCut E c) P where
 fn:=ok.fn
 call:=ok.call
 ty:=ok.ty
 eq:=ok.eq
 mixed:=ok.mixed
 orc:=ok.orc
theorem eok_with(ok:EOk E P){o:Nat->List Value->Option Value}(ho: ∀g args v,o g args=some v->(∃fn,E.fn g=some fn/\fn.body.isSome=true)/\OrcAt P g args v):EOk (za E o) P where
 fn:=ok.fn
 call:=ok.call
 ty:=ok.ty
 eq:=ok.eq
 mixed:=ok.mixed
 orc:=ho
section
open Go.ChangeShapes Go.WideShapes
variable{H:Type}{enc:TypeId×Value->H}{P:Program}
end
def ey(E:Env)(f:FuncId)(args:List Value)(rc:Option (Value×Bool))(h:Hp)(Q:Out->Option (Value×Bool)->Hp->Prop):Prop:= ∃o a b,(lim E).call f args rc h=some (o,a,b)/\Q o a b
def Ret(E:Env)(f:FuncId)(args:List Value)(h:Hp)(Q:Value->Hp->Prop):Prop:= ∃v a,(lim E).call f args none h=some (.ret v,none,a)/\Q v a
theorem Ret.mono{Q c:Value->Hp->Prop}(k: ∀v h',Q v h'->c v h')(r:Ret E f args h Q):Ret E f args h c:=by obtain⟨v,h',a,b⟩:=r;exact⟨v,h',a,k v h' b⟩
def mX(E:Env)(b:Nat)(args:List Value)(h:Hp)(Q:Out->Hp->Prop):Prop:= ∃o a,kj E (lim E) b args h=some (o,a)/\Q o a
section
variable(E:Env)(cx:Cx)(o:Oper)(l:Loc)(K:Ex->Loc->Hp->Prop)
def gH:Option (dM×Hp)->Prop
 |some (.val v,a)=>K .normal (l.put o.dst v) a|some (.skip,a)=>K .normal (l.put o.dst (.tuple #[])) a| some (.call f c,a)=>ey E f c none a fun x _ e=>match x with
   | .ret v=>K .normal (l.put o.dst v) e| .pan v=>K (.pan v) l e
 | some (.yield b c,a)=>mX E b c a fun x e=>match x with
   | .ret v=>K .normal (l.put o.dst v) e| .pan v=>K (.pan v) l e
 |some (.panic v,a)=>K (.pan v) l a| some (.recov,a)=>cx.round=none/\match l.rc with
   |some (v,false)=>K .normal (({l with rc:=some (v,true)}:Loc).put o.dst v) a
   |_=>K .normal (l.put o.dst .nilIface) a
 |some (.defer d,a)=>cx.round=none/\K .normal (({l with dfs:=d::l.dfs}:Loc).put o.dst (.tuple #[])) a
 |none=>False
end
section
variable{E:Env}{cx:Cx}{o:Oper}{l:Loc}{K:Ex->Loc->Hp->Prop}{h:Hp}
theorem then_step:Then (eY E (lim E) cx o l h) K↔gH E cx o l K (aop E l.ev h o.op):=by
 unfold eY;cases p:aop E l.ev h o.op with
 | none=>
   simp only [gH,dB,pQ];exact⟨fun⟨_,_,_,i,_⟩=>(by cases i),fun h=>h.elim⟩
 | some q=>
   obtain⟨m,i⟩:=q;cases m with
   |val v=>exact jq|skip=>exact jq|panic v=>exact jq| call f g=>
     simp only [gH,dB,ey];constructor
     . intro⟨e,l',h',a,b⟩;cases j:(lim E).call f g none i with
       |none=>rw [j]at a;cases a
       | some q=>
         obtain⟨x,n,k⟩:=q;rw [j]at a;cases x<;>(cases a;grind)
     . intro⟨x,n,k,a,b⟩;rw [a];cases x<;>exact⟨_,_,_,rfl,b⟩
   | yield b g=>
     simp only [gH,dB,mX];constructor
     . intro⟨e,l',h',a,c⟩;cases j:kj E (lim E) b g i with
       |none=>rw [j]at a;cases a
       | some q=>
         obtain⟨x,k⟩:=q;rw [j]at a;cases x<;>(cases a;grind)
     . intro⟨x,k,a,c⟩;rw [a];cases x<;>exact⟨_,_,_,rfl,c⟩
   | recov=>
     simp only [gH];cases cx.round with
     |some r=>simp only [];exact⟨fun⟨_,_,_,i,_⟩=>(by cases i),fun h=>(by cases h.1)⟩
     | none=>simp only [true_and];grind[jq]
   | defer d=>
     simp only [gH];cases cx.round with
     |some r=>simp only [];exact⟨fun⟨_,_,_,i,_⟩=>(by cases i),fun h=>(by cases h.1)⟩
     |none=>simp only [true_and];exact jq
theorem AF:gH E cx o l K (some (.val v,h))↔K .normal (l.put o.dst v) h:=zM
theorem zm:gH E cx o l K (some (.skip,h))↔K .normal (l.put o.dst (.tuple #[])) h:=zM
theorem yg:gH E cx o l K (some (.panic v,h))↔K (.pan v) l h:=zM
theorem step_ret{Q:Value->Hp->Prop}(c:Ret E f args h Q)(d: ∀v h',Q v h'->K .normal (l.put o.dst v) h'):gH E cx o l K (some (.call f args,h)):=by obtain⟨v,h',a,b⟩:=c;exact⟨.ret v,none,h',a,d v h' b⟩
end
def qt(E:Env)(rs:List ResultVar)(Q:Out->Option (Value×Bool)->Hp->Prop):gp
 | .exit _,_,_=>False| .pan v,l,h=> ∃m a,cI (lim E) l.dfs (some v) h=some (m,a)/\match m with
   |some v=>Q (.pan v) l.rc a|none=> ∃b,bR E l.regs a rs=some b/\Q (.ret (ab b)) l.rc a
 | .normal,l,h=> ∃a,cI (lim E) l.dfs none h=some (none,a)/\ ∃b,bR E l.regs a rs=some b/\Q (.ret (ab b)) l.rc a| .ret,l,h=> ∃a,cI (lim E) l.dfs none h=some (none,a)/\ ∃b,bR E l.regs a rs=some b/\Q (.ret (ab b)) l.rc a
theorem enter{k:Func}{body:Code}{rs:List ResultVar}{rc:Option (Value×Bool)}{Q:Out->Option (Value×Bool)->Hp->Prop}
 (q:E.orc f args=none) (hf:E.fn f=some k) (r:k.body=some body) (s:k.ntmps=n) (o:k.results.toList=rs) (hle:args.length<=n)
 (t:Run E (lim E) ⟨f,n,none⟩ (qt E rs Q) [.code body] .normal (LL n (dh args) [] rc) h):ey E f args rc h Q:=by
 obtain⟨e,l,u,w,j⟩:=t;simp only [Run]at j;unfold ey;rw [call_eq];unfold jB;rw [q];simp only [];unfold mE;rw [hf];simp only [];rw [r];simp only [];rw [s,Xa hle];simp only [cond_true];rw [args_tab hle];have g:(lim E).code ⟨f,n,none⟩ body ⟨tab n (dh args),[],rc⟩ h=some (e,l,u):=by rw [zu];exact w
 rw [g,o];cases e with
 |exit i=>exact j.elim| pan v=>
   obtain⟨m,p,a,b⟩:=j;grind
 |normal=>obtain⟨p,a,x,c,d⟩:=j;grind
 |ret=>obtain⟨p,a,x,c,d⟩:=j;grind
def RetQ(Q:Value->Hp->Prop):Out->Option (Value×Bool)->Hp->Prop
 | .ret v,none,h=>Q v h|_,_,_=>False
theorem ret_of{Q:Value->Hp->Prop}(hq:ey E f args none h (RetQ Q)):Ret E f args h Q:=by
 obtain⟨o,c,d,a,b⟩:=hq;cases o with
 |pan v=>exact b.elim| ret v=>cases c with
   |none=>exact⟨v,d,a,b⟩|some y=>exact b.elim
theorem aa{a:Func}{body:Code}{rs:List ResultVar}{Q:Value->Hp->Prop}
 (c:E.orc f args=none) (hf:E.fn f=some a) (d:a.body=some body) (e:a.ntmps=n) (b:a.results.toList=rs) (hle:args.length<=n)
 (g:Run E (lim E) ⟨f,n,none⟩ (qt E rs (RetQ Q)) [.code body] .normal (LL n (dh args) [] none) h):Ret E f args h Q:=ret_of (enter c hf d e b hle g)
theorem ret_orc{Q:Value->Hp->Prop}(a:E.orc f args=some v)(hq:Q v h):Ret E f args h Q:=by refine⟨v,h,?_,hq⟩;rw [call_eq];unfold jB;rw [a]
section
variable{E:Env}{rs:List ResultVar}{Q:Value->Hp->Prop}{n:Nat}{ρ:Nat->Value}{h:Hp}
theorem Ay:qt E rs (RetQ Q) .ret (LL n ρ [] none) h↔ ∃vs,bR E (tab n ρ) h rs=some vs/\Q (ab vs) h:=by
 simp only [qt,LL,cI];constructor
 . intro⟨h',a,b⟩;cases a;exact b
 . intro b;exact⟨h,rfl,b⟩
theorem BX:qt E rs (RetQ Q) .normal (LL n ρ [] none) h↔ ∃vs,bR E (tab n ρ) h rs=some vs/\Q (ab vs) h:=Ay
theorem bS{P:List Value->Prop}:(∃vs,bR E (tab n ρ) h []=some vs/\P vs)↔P []:=by simp only [bR];grind
theorem dX{t:Tmp}{P:List Value->Prop}(a:t<n):(∃vs,bR E (tab n ρ) h (.tmp t::rs)=some vs/\P vs)↔ ∃vs,bR E (tab n ρ) h rs=some vs/\P (ρ t::vs):=by simp only [bR,nU,if_pos a];grind
theorem bw{t:Tmp}{ty:TypeId}{P:List Value->Prop}(a:t<n)(b:fV E h ty (ρ t)=some v):(∃vs,bR E (tab n ρ) h (.cell t ty::rs)=some vs/\P vs)↔ ∃vs,bR E (tab n ρ) h rs=some vs/\P (v::vs):=by simp only [bR,nU,if_pos a,b];grind
end
structure Gr(h h':Hp):Prop where
 ok0:OZ h
 ok:OZ h'
 n:h.n<=h'.n
 get: ∀b,b<h.n->h'.get b=h.get b
 lo: ∀x,x<=h.n->x<=h.lo->x<=h'.lo
theorem Gr.refl(a:OZ h):Gr h h:=⟨a,a,Xc _,fun _ _=>rfl,fun _ _ h=>h⟩
theorem Gr.trans{a b c:Hp}(x:Gr a b)(y:Gr b c):Gr a c:=
 ⟨x.ok0,y.ok,Xm x.n y.n,fun i d=>(y.get i (Nat.lt_of_lt_of_le d x.n)).trans (x.get i d),fun i e f=>y.lo i (Xm e x.n) (x.lo i e f)⟩
theorem new_ok(a:OZ h)(x:Blk):(h.new x).t.Sized (h.new x).n:=Tr.sized_push x a
theorem put_ok(a:OZ h)(b:Nat)(x:Blk):(h.put b x).t.Sized (h.put b x).n:=Tr.sized_set b x a
theorem Gr.new{h:Hp}(a:OZ h)(x:Blk):Gr h (h.new x):=
 ⟨a,new_ok a x,Nat.le_succ _,fun b c=>by rw [h.get_new x a,if_neg (by omega)],fun _ _ h=>h⟩
theorem iu(a:OZ h){x:Blk}(e:h.get b=some x):b<h.n:=(a b).1 (by show(h.get b).isSome=true;rw [e];rfl)
theorem Gr.at(g:Gr h h'){x:Blk}(e:h.get b=some x):h'.get b=some x:=by rw [g.get b (iu g.ok0 e)];exact e
theorem bA(a:OZ h){o:Nat}(e:h.load b o n=some l):b<h.n:=by
 unfold Hp.load at e
 split at e
 next c=>exact iu a c
 next=>cases e
theorem Gr.load{h h':Hp}(g:Gr h h'){b o n:Nat}{l:List Value}(e:h.load b o n=some l):h'.load b o n=some l:=by have:=g.get b (bA g.ok0 e);grind[Hp.load]
theorem Gr.hlo(g:Gr {h with lo:=h.n} h'):Xb h.n h'.lo=true:=Xa (g.lo h.n (Xc _) (Xc _))
def Row(h:Hp)(b:Nat)(l:List Value)(md:Nat):Prop:= ∃t a,h.get b=some (.cells t l.length a md)/\t.Sized l.length/\ ∀i:Nat,t.get i=l[i]?
theorem Row.gr(g:Gr h h')(r:Row h b l md):Row h' b l md:=by obtain⟨t,d,a,b,c⟩:=r;exact⟨t,d,g.at a,b,c⟩
theorem Row.lt(c:OZ h)(r:Row h b l md):b<h.n:=by obtain⟨t,d,a,_,_⟩:=r;exact iu c a
theorem Bu{a:Type}{t:Tr a}{l:List a}(b: ∀i:Nat,t.get i=l[i]?): ∀(n o:Nat),o+n<=l.length->t.slice o n=some ((l.drop o).take n)
 |0,o,_=>by simp [Tr.slice]| n+1,o,h=>by simp only [Tr.slice];have:l[o]? =some l[o]:=List.getElem?_eq_getElem (by omega);rw [b o,this,Bu b n (o+1) (by omega)];simp only [];congr 1;rw [show List.drop o l=l[o]::List.drop (o+1) l from Xr (by omega)];rfl
theorem Row.load{h:Hp}{b:Nat}{l:List Value}{md:Nat}(r:Row h b l md){o n:Nat}(d:o+n<=l.length):h.load b o n=some ((l.drop o).take n):=by obtain⟨t,e,a,_,c⟩:=r;grind[Hp.load,Xa,Bu]
theorem Row.load1(r:Row h b l md){o:Nat}(a:l[o]? =some v):h.load b o 1=some [v]:=by have hlt:=(List.getElem?_eq_some_iff.1 a).1;rw [r.load (by omega)];grind[Xr,Xi]
theorem qN(a:OZ h)(l:List Value)(el md:Nat):Row (h.new (.cells (Tr.ofList l) l.length el md)) h.n l md:=
 ⟨Tr.ofList l,el,by rw [h.get_new _ a,if_pos rfl],Tr.sized_ofList l,fun i=>Tr.get_ofList l i⟩
def lay(l:List Value)(o:Nat)(vs:List Value):List Value:=l.take o++vs++l.drop (o+vs.length)
theorem qD{o:Nat}(h:o+vs.length<=l.length):(lay l o vs).length=l.length:=by simp [lay];omega
theorem lC{o:Nat}(h:o+vs.length<=l.length)(i:Nat):(lay l o vs)[i]? =if o<=i/\i<o+vs.length then vs[i-o]? else l[i]? :=by
 unfold lay;by_cases a:i<o
 . grind
 grind
theorem Row.store{h:Hp}(j:OZ h){b:Nat}{l:List Value}{md:Nat}(r:Row h b l md)(g:md≠0){o:Nat}{vs:List Value}(e:o+vs.length<=l.length)(k:vs.all mM=true):
 ∃x,h.store b o vs=some (h.put b x)/\Row (h.put b x) b (lay l o vs) md:=by
 obtain⟨t,f,a,d,c⟩:=r;refine⟨.cells (t.setAll o vs) l.length f md,?_,?_⟩
 . grind[Hp.store,Xd,absurd,Xe,Xa]
 . refine⟨t.setAll o vs,f,?_,?_,fun i=>?_⟩
   . rw [Hp.get_put,if_pos ⟨rfl,by rw [a];rfl⟩,qD e]
   . rw [qD e];exact Tr.sized_setAll o vs d
   grind[Tr.get_setAll,lC]
theorem pop_ext{d:Operand->Value}(e: ∀x∈op.operands.toList,ρ x=d x):pop E ρ op=pop E d op:=by
 cases op
 case build t g=>grind[pop,Xg,Op.operands]
 case makeFunc f a b=>
  cases f<;>(try rfl);grind[pop,Array.map_congr_left,Op.operands]
 case slice t x l h m=>
  simp only [pop];have i:=e x (by simp [Op.operands]);have j:l.map ρ=l.map d:=by cases l with|none=>rfl|some y=>simp [e y (by simp [Op.operands])]
  have k:h.map ρ=h.map d:=by cases h with|none=>rfl|some y=>simp [e y (by simp [Op.operands])]
  have n:m.map ρ=m.map d:=by cases m with|none=>rfl|some y=>simp [e y (by simp [Op.operands])]
  grind
 case call c=>
  have o:c.args.toList.map ρ=c.args.toList.map d:=by grind[Xg,Op.operands,Call.operands]
  grind[pop,invoke,builtin,Xo,Op.operands,Call.operands]
 all_goals (try rfl)
 all_goals first
  |(unfold Op.operands at e;simp at e;simp only [pop];simp [e];done)
  |(simp only [pop];done)
  |(cases ‹Fn› <;>simp only [pop];done)
theorem wz{a:Operand->Value}(e: ∀x∈op.operands.toList,ρ x=a x):aop E ρ h op=aop E a h op:=by
 have d:=pop_ext (E:=E) e;cases op
 case buildSlice t n j=>grind[aop,Xg,Op.operands]
 case makeMap t r=>cases r<;>simp only [aop,d]
 case call c=>
  have i:c.args.toList.map ρ=c.args.toList.map a:=by grind[Xg,Op.operands,Call.operands]
  have k: ∀x∈c.args.toList,ρ x=a x:=by simp_all
  cases g:c.callee with
  | value f=>grind[hf,Op.operands,Call.operands,aop]|invoke r n=>simp only [aop,g]| builtin b=>
    cases b<;>simp only [aop,g,d]<;>(try rfl)
    all_goals grind
 case defer c=>
  have i:c.args.toList.map ρ=c.args.toList.map a:=by grind[Xg,Op.operands,Call.operands]
  grind[hf,Op.operands,Call.operands,aop,invoke,builtin]
 all_goals first
  |(simp only [aop];done)
  |(simp only [aop,d];done)
  |(unfold Op.operands at e;simp at e;simp only [aop,e];done)
theorem touch_ext{a:Operand->Value}(e: ∀x∈op.operands.toList,ρ x=a x):touch ρ op=touch a op:=by
 cases op
 case call c=>grind[touch,Op.operands,Call.operands]
 all_goals first
  |rfl
  |(unfold Op.operands at e;simp at e;simp only [touch,e];done)
  |(simp only [touch];done)
theorem vw(l:Loc)(op:Op): ∀x∈op.operands.toList,l.evD (tmpsOf op.operands.toList) x=l.ev x:=by
 intro x a;cases x with
 | tmp t=>grind[Loc.evD,oW,tN]|_=>rfl
def lN(E:Env)(K:Value->Hp->Prop):Option (dM×Hp)->Prop
 |some (.val v,c)=>K v c|some (.skip,c)=>K (.tuple #[]) c| some (.call f a,c)=>ey E f a none c fun x _ d=>match x with
   | .ret v=>K v d| .pan _=>False
 | some (.yield b a,c)=>mX E b a c fun x d=>match x with
   | .ret v=>K v d| .pan _=>False
 |_=>False
theorem opVal_n{x:Option (dM×Hp)}{K:Value->Hp->Prop}:(∃v h',dB E (lim E) x=some (.ret v,h')/\K v h')↔lN E K x:=by
 cases x with
 |none=>exact⟨fun⟨_,_,a,_⟩=>(by cases a),fun h=>h.elim⟩
 | some q=>
   obtain⟨e,g⟩:=q;cases e with
   |val v=>exact⟨fun⟨_,_,a,b⟩=>(by cases a;exact b),fun h=>⟨_,_,rfl,h⟩⟩
   |skip=>exact⟨fun⟨_,_,a,b⟩=>(by cases a;exact b),fun h=>⟨_,_,rfl,h⟩⟩
   |panic v=>exact⟨fun⟨_,_,a,_⟩=>(by cases a),fun h=>h.elim⟩
   |recov=>exact⟨fun⟨_,_,a,_⟩=>(by cases a),fun h=>h.elim⟩
   |defer d=>exact⟨fun⟨_,_,a,_⟩=>(by cases a),fun h=>h.elim⟩
   | call f c=>simp only [lN,dB,ey];grind| yield b c=>grind[lN,dB,mX]
theorem stepD_iff{l:Loc}{a:Bool}{K:Value->Hp->Prop}:(∃v h',di E (lim E) (l.evD (tmpsOf o.op.operands.toList)) a o h=some (v,h')/\K v h')↔
 (if a=true then lN E (fun v h'=>Xb h.n h'.lo=true/\K v {h' with lo:=h.lo}) (aop E l.ev {h with lo:=h.n} o.op)else lN E K (aop E l.ev h o.op)):=by
 have e:=vw l o.op;unfold di;cases a with
 | false=>rw [if_neg (by simp)];simp only [cond_false];rw [wz e,<-opVal_n];grind| true=>rw [if_pos rfl];simp only [cond_true];rw [wz e,<-opVal_n];grind
theorem EH{a:Operand->Value}{b:Bool}(e: ∀x∈op.operands.toList,ρ x=a x):cQ ρ b op h h'=cQ a b op h h':=by unfold cQ jR;rw [touch_ext e]
theorem run_opsD{Q:gp}{k:List Fr}{l:Loc}{c:List (Nat×Tch)}:Run E (lim E) cx Q (.opsD a q ps (o::os) i c::k) .normal l h↔ ∃b,cJ a l.regs o=some b/\
 (if b =true then(if fF E q i o.op=true then
       lN E (fun v h'=>Xb h.n h'.lo=true/\Run E (lim E) cx Q (.opsD a q ps os (i+1) (iR i c (cQ l.ev true o.op h h))::k) .normal (l.put o.dst v) {h' with lo:=h.lo}) (aop E l.ev {h with lo:=h.n} o.op)
     else lN E (fun v h'=>Run E (lim E) cx Q (.opsD a q ps os (i+1) (iR i c (cQ l.ev false o.op h h'))::k) .normal (l.put o.dst v) h') (aop E l.ev h o.op))
   else Run E (lim E) cx Q (.opsD a q ps os (i+1) c::k) .normal (l.put o.dst (.tuple #[])) h):=by
 rw [AE];simp only [EH (vw l o.op),stepD_iff];cases fF E q i o.op with
 | true=>rfl|false=>exact zM
theorem uU{K:Value->Hp->Prop}{Q:Value->Hp->Prop}(c:Ret E f args h Q)(d: ∀v h',Q v h'->K v h'):lN E K (some (.call f args,h)):=by obtain⟨v,h',a,b⟩:=c;exact⟨.ret v,none,h',a,d v h' b⟩
noncomputable section
abbrev Opt:=Option (Ex×Loc×Hp)
def getK{a:Type}(t:Tr a):Nat->Option a:=Tr.rec (motive:=fun _=>Nat->Option a) (fun _=>none)
 (fun x _ _ b c i=>Nat.rec (some x) (fun n _=>Bool.rec (c (n/2)) (b (n/2)) (Xd (n%2) 0)) i) t
def setK{a:Type}(t:Tr a):Nat->a->Tr a:=Tr.rec (motive:=fun _=>Nat->a->Tr a) (fun _ _=>.nil)
 (fun y l r b c i x=>Nat.rec (.node x l r) (fun n _=>Bool.rec (.node y l (c (n/2) x)) (.node y (b (n/2) x) r) (Xd (n%2) 0)) i) t
def iC(l:Loc)(d:Option Tmp)(v:Value):Loc:=Option.rec l (fun t=>Loc.mk (setK l.regs t v) l.dfs l.rc) d
def evK(l:Loc)(x:Operand):Value:=Operand.rec (motive:=fun _=>Loc->Value) (fun t l=>Option.rec (.tuple #[]) (fun v=>v) (getK l.regs t)) (fun v _=>Bool.rec poison v (du v))
 (fun g _=>Bool.rec poison (.pointer (some ⟨g,0,none⟩)) (Xt g 16)) (fun f _=>.func (.func f) #[] #[]) x l
def exK(e:Ex):(Loc->Hp->Opt)->(Ex->Loc->Hp->Opt)->Loc->Hp->Opt:=Ex.rec (motive:=fun _=>(Loc->Hp->Opt)->(Ex->Loc->Hp->Opt)->Loc->Hp->Opt)
 (fun b _ l h=>b l h) (fun id _ a l h=>a (.exit id) l h) (fun _ a l h=>a .ret l h) (fun v _ a l h=>a (.pan v) l h) e
def d9(x:Opt)(a:Loc->Hp->Opt)(b:Ex->Loc->Hp->Opt):Opt:=Option.rec none (fun q=>Prod.rec (fun e c=>Prod.rec (fun l h=>exK e a b l h) c) q) x
def asInt:Value->Option (IntKind×Int)
 | .int k n=>some (k,n)|_=>none
abbrev BM:=IntKind->Int->IntKind->Int->Option Value->Option Value
def arK(f:IntKind->Int->Int->Option Value):BM:=fun k m a n _=>Bool.rec none (f k m n) (jO k a)
def binI(op:BinOp):BM:=BinOp.rec (motive:=fun _=>BM)
 (add:=arK fun k x y=>some (.int k (an k (x+y)))) (sub:=arK fun k x y=>some (.int k (an k (x-y)))) (mul:=arK fun k x y=>some (.int k (an k (x*y))))
 (quo:=fun _ _ _ _ s=>s) (rem:=fun _ _ _ _ s=>s) (and:=fun _ _ _ _ s=>s) (or:=fun _ _ _ _ s=>s) (xor:=fun _ _ _ _ s=>s) (andNot:=fun _ _ _ _ s=>s) (shl:=fun _ _ _ _ s=>s) (shr:=fun _ _ _ _ s=>s)
 (eql:=arK fun _ x y=>some (.bool (jg x y))) (neq:=arK fun _ x y=>some (.bool (!jg x y))) (lss:=arK fun _ x y=>some (.bool (oG x y))) (leq:=arK fun _ x y=>some (.bool (!oG y x)))
 (gtr:=arK fun _ x y=>some (.bool (oG y x))) (geq:=arK fun _ x y=>some (.bool (!oG x y))) op
def binK(E:Env)(op:BinOp)(t:TypeId)(x y:Operand)(a b:Value):Option Value:=
 Option.rec (bV E op t x y a b) (fun p=>Option.rec (bV E op t x y a b) (fun q=>binI op p.1 p.2 q.1 q.2 (bV E op t x y a b)) (asInt b)) (asInt a)
abbrev OpM:=Env->Rec->Cx->Option Tmp->Loc->Hp->(Loc->Hp->Opt)->(Ex->Loc->Hp->Opt)->Opt
def lJ(r:Option Value)(d:Option Tmp)(l:Loc)(h:Hp)(a:Loc->Hp->Opt):Opt:=Option.rec none (fun v=>a (iC l d v) h) r
def retHK(r:Option (Hp×Value))(d:Option Tmp)(l:Loc)(a:Loc->Hp->Opt):Opt:=Option.rec none (fun p=>Prod.rec (fun h v=>a (iC l d v) h) p) r
def vG(r:Option Hp)(d:Option Tmp)(l:Loc)(a:Loc->Hp->Opt):Opt:=Option.rec none (fun h=>a (iC l d (.tuple #[])) h) r
def dI(op:Op):OpM:=fun E R a d l h b c=>d9 (eY E R a ⟨d,op,0,"",#[],none⟩ l h) b c
def outK(o:Out):Option Tmp->Loc->Hp->(Loc->Hp->Opt)->(Ex->Loc->Hp->Opt)->Opt:=Out.rec (motive:=fun _=>Option Tmp->Loc->Hp->(Loc->Hp->Opt)->(Ex->Loc->Hp->Opt)->Opt)
 (fun v d l h a _=>a (iC l d v) h) (fun v _ l h _ b=>b (.pan v) l h) o
def resK(r:Option (Out×Option (Value×Bool)×Hp))(d:Option Tmp)(l:Loc)(a:Loc->Hp->Opt)(b:Ex->Loc->Hp->Opt):Opt:=Option.rec none (fun q=>Prod.rec (fun o c=>Prod.rec (fun _ h=>outK o d l h a b) c) q) r
def asFn:Value->Option (FuncId×Array Value×Array Value)
 | .func (.func g) a b=>some (g,a,b)|_=>none
def callK(c:Call):OpM:=fun E R e d l h a b=>Callee.rec (motive:=fun _=>Opt)
 (fun f=>Option.rec (dI (.call c) E R e d l h a b) (fun p=>resK (R.call p.1 (p.2.1.toList++c.args.toList.map (evK l)++p.2.2.toList) none h) d l a b) (asFn (evK l f)))
 (fun _ _=>dI (.call c) E R e d l h a b) (fun _=>dI (.call c) E R e d l h a b) c.callee
def opK(op:Op):OpM:=Op.rec (motive:=fun _=>OpM)
 (move:=fun x _ _ _ d l h j _=>j (iC l d (evK l x)) h)
 (assign:=fun x _ _ _ d l h j _=>j (iC l d (evK l x)) h)
 (pick:=fun c a b=>dI (.pick c a b))
 (alloc:=fun e=>dI (.alloc e))
 (box:=fun e v=>dI (.box e v))
 (build:=fun t p=>dI (.build t p))
 (buildSlice:=fun t n p=>dI (.buildSlice t n p))
 (insert:=fun t m k v=>dI (.insert t m k v))
 (load:=fun t a E _ _ d l h j _=>lJ (fV E h t (evK l a)) d l h j)
 (store:=fun t a v E _ _ d l h j _=>vG (jV E h t (evK l a) (evK l v)) d l j)
 (ready:=fun g=>dI (.ready g))
 (waits:=fun g=>dI (.waits g))
 (nilCheck:=fun x=>dI (.nilCheck x))
 (binOp:=fun op t x y u E _ _ d l h j _=>lJ (binK E op t x y (evK l x) (evK l y)) d l h j)
 (unOp:=fun op t x E _ _ d l h j _=>lJ (unP op (evK l x)) d l h j)
 (convert:=fun s t x=>dI (.convert s t x))
 (sliceToArrayPointer:=fun t x=>dI (.sliceToArrayPointer t x))
 (makeInterface:=fun t x=>dI (.makeInterface t x))
 (makeFunc:=fun f a b=>dI (.makeFunc f a b))
 (makeMap:=fun t r=>dI (.makeMap t r))
 (makeChan:=fun t s=>dI (.makeChan t s))
 (makeSlice:=fun t a c=>dI (.makeSlice t a c))
 (slice:=fun t x a b c=>dI (.slice t x a b c))
 (fieldAddr:=fun s x i E _ _ d l h j _=>lJ (aG E s (evK l x) i) d l h j)
 (field:=fun t x i E _ _ d l h j _=>lJ (bG E t (evK l x) i) d l h j)
 (indexAddr:=fun t x i E _ _ d l h j _=>lJ (fZ E t (evK l x) (evK l i)) d l h j)
 (index:=fun t x i E _ _ d l h j _=>lJ (iY E t (evK l x) (evK l i)) d l h j)
 (lookup:=fun t m k o E _ _ d l h j _=>lJ (dw E h t (evK l m) (evK l k) o) d l h j)
 (mapUpdate:=fun t m k v E _ _ d l h j _=>vG (d6 E h t (evK l m) (evK l k) (evK l v)) d l j)
 (mapEntry:=fun t m k E _ _ d l h j _=>retHK (kY E h t (evK l m) (evK l k)) d l j)
 (entryStore:=fun t m s v=>dI (.entryStore t m s v))
 (range:=fun t x=>dI (.range t x))
 (next:=fun i s=>dI (.next i s))
 (entry:=fun i=>dI (.entry i))
 (typeAssert:=fun x s t o=>dI (.typeAssert x s t o))
 (extract:=fun t i=>dI (.extract t i))
 (call:=fun c=>callK c)
 (go:=fun c=>dI (.go c))
 (defer:=fun c=>dI (.defer c))
 (panic:=fun x=>dI (.panic x))
 (send:=fun c x=>dI (.send c x))
 (recv:=fun t c o=>dI (.recv t c o))
 (select:=fun q b=>dI (.select q b)) op
def sQ(ops:List Oper)(l:Loc)(o:Oper):Option Bool:=Option.rec (some true) (fun _=>cJ ops l.regs o) o.guard
def opsK(E:Env)(R:Rec)(cx:Cx)(ops:List Oper)(c:Loc->Hp->Opt)(d:Ex->Loc->Hp->Opt)(os:List Oper):Loc->Hp->Opt:=List.rec (motive:=fun _=>Loc->Hp->Opt) c
 (fun o _ a l h=>Option.rec none (fun b=>Bool.rec (a (iC l o.dst (.tuple #[])) h) (opK o.op E R cx o.dst l h a d) b) (sQ ops l o)) os
def sC(op:Op):Bool:=Op.rec (motive:=fun _=>Bool)
 (move:=fun _=>true) (assign:=fun _=>true) (pick:=fun _ _ _=>false) (alloc:=fun _=>false) (box:=fun _ _=>false) (build:=fun _ _=>false) (buildSlice:=fun _ _ _=>false)
 (insert:=fun _ _ _ _=>false) (load:=fun _ _=>true) (store:=fun _ _ _=>true) (ready:=fun _=>false) (waits:=fun _=>false) (nilCheck:=fun _=>false) (binOp:=fun _ _ _ _ _=>true)
 (unOp:=fun _ _ _=>true) (convert:=fun _ _ _=>false) (sliceToArrayPointer:=fun _ _=>false) (makeInterface:=fun _ _=>false) (makeFunc:=fun _ _ _=>false) (makeMap:=fun _ _=>false)
 (makeChan:=fun _ _=>false) (makeSlice:=fun _ _ _=>false) (slice:=fun _ _ _ _ _=>false) (fieldAddr:=fun _ _ _=>true) (field:=fun _ _ _=>true) (indexAddr:=fun _ _ _=>true) (index:=fun _ _ _=>true)
 (lookup:=fun _ _ _ _=>true) (mapUpdate:=fun _ _ _ _=>true) (mapEntry:=fun _ _ _=>true) (entryStore:=fun _ _ _ _=>false) (range:=fun _ _=>false) (next:=fun _ _=>false) (entry:=fun _=>false)
 (typeAssert:=fun _ _ _ _=>false) (extract:=fun _ _=>false) (call:=fun _=>false) (go:=fun _=>false) (defer:=fun _=>false) (panic:=fun _=>false) (send:=fun _ _=>false) (recv:=fun _ _ _=>false)
 (select:=fun _ _=>false) op
def tJ(E:Env)(q i:Nat)(op:Op):Bool:=Bool.rec (Bool.rec false (Xb 3 (cls E op)) (Nat.testBit q i)) false (Xd q 0)
def outDK(o:Out):(Value->Hp->Opt)->Hp->Opt:=Out.rec (motive:=fun _=>(Value->Hp->Opt)->Hp->Opt) (fun v k h=>k v h) (fun _ _ _=>none) o
def resDK(r:Option (Out×Option (Value×Bool)×Hp))(k:Value->Hp->Opt):Opt:=Option.rec none (fun q=>Prod.rec (fun o a=>Prod.rec (fun _ h=>outDK o k h) a) q) r
def mU(E:Env)(R:Rec)(a:Bool)(o:Oper)(l:Loc)(h:Hp)(k:Value->Hp->Opt):Opt:=Option.rec none (fun p=>k p.1 p.2) (di E R l.ev a o h)
def yN(h:Hp)(k:Value->Hp->Opt)(v:Value)(h':Hp):Opt:=Bool.rec none (k v {h' with lo:=h.lo}) (Xb h.n h'.lo)
def callDK(E:Env)(R:Rec)(a:Bool)(o:Oper)(c:Call)(l:Loc)(h:Hp)(k:Value->Hp->Opt):Opt:=Callee.rec (motive:=fun _=>Opt)
 (fun f=>Option.rec (mU E R a o l h k) (fun p=>Bool.rec (resDK (R.call p.1 (p.2.1.toList++c.args.toList.map (evK l)++p.2.2.toList) none h) k)
   (resDK (R.call p.1 (p.2.1.toList++c.args.toList.map (evK l)++p.2.2.toList) none {h with lo:=h.n}) (yN h k)) a) (asFn (evK l f)))
 (fun _ _=>mU E R a o l h k) (fun _=>mU E R a o l h k) c.callee
def asCall(op:Op):Option Call:=match op with
 | .call c=>some c|_=>none
def yz(E:Env)(R:Rec)(a:Bool)(o:Oper)(l:Loc)(h:Hp)(k:Value->Hp->Opt):Opt:=Option.rec (mU E R a o l h k) (fun c=>callDK E R a o c l h k) (asCall o.op)
def yr(l:Loc)(op:Op):Option Tch:=match touch (l.evD (tmpsOf op.operands.toList)) op with
 |none=>none|some b=>some (.blk b)
abbrev DM:=Nat->Loc->Hp->List (Nat×Tch)->Opt
def yL (E:Env) (R:Rec) (cx:Cx) (q:Nat) (o:Oper) (b:DM) (i:Nat) (l:Loc) (h:Hp) (c:List (Nat×Tch)):Opt:=
 Bool.rec (yz E R (tJ E q i o.op) o l h fun v a=>b (i+1) (iC l o.dst v) a (iR i c (cQ (l.evD (tmpsOf o.op.operands.toList)) (tJ E q i o.op) o.op h a)))
  (Bool.rec (opK o.op E R cx o.dst l h (fun d a=>b (i+1) d a (iR i c (yr l o.op))) (fun _ _ _=>none))
    (mU E R true o l h fun v a=>b (i+1) (iC l o.dst v) a (iR i c (yr l o.op))) (tJ E q i o.op)) (sC o.op)
def qv(E:Env)(R:Rec)(cx:Cx)(ops:List Oper)(q:Nat)(a:DM)(os:List Oper):DM:=List.rec (motive:=fun _=>DM) a
 (fun o _ c i l h d=>Option.rec none (fun b=>Bool.rec (c (i+1) (iC l o.dst (.tuple #[])) h d) (yL E R cx q o c i l h d) b) (sQ ops l o)) os
def drawKo(E:Env)(R:Rec)(cx:Cx)(ops:List Oper)(l:Loc)(h:Hp)(a:Loc->Hp->Opt):Opt:=
 Option.rec none (fun p=>qv E R cx ops p.1 (fun _ l h b=>Bool.rec none (a l h) (cR b p.2)) ops 0 l h []) (jT E ops)
def drawK(E:Env)(R:Rec)(cx:Cx)(ops:List Oper)(l:Loc)(h:Hp)(a:Loc->Hp->Opt):Opt:=drawKo E R cx (cu ops) l h a
abbrev CodeM:=Cx->Code->Loc->Hp->(Loc->Hp->Opt)->(Ex->Loc->Hp->Opt)->Opt
def asBool:Value->Option Bool
 | .bool b=>some b|_=>none
def blkK(e:Ex):Nat->(Loc->Hp->Opt)->(Ex->Loc->Hp->Opt)->Loc->Hp->Opt:=Ex.rec (motive:=fun _=>Nat->(Loc->Hp->Opt)->(Ex->Loc->Hp->Opt)->Loc->Hp->Opt)
 (fun _ b _ l h=>b l h) (fun i id b a l h=>Bool.rec (a (.exit i) l h) (b l h) (Xd i id)) (fun _ _ a l h=>a .ret l h) (fun v _ _ a l h=>a (.pan v) l h) e
def pO(E:Env)(R:Rec)(M:CodeM)(cx:Cx)(c:Code):Loc->Hp->(Loc->Hp->Opt)->(Ex->Loc->Hp->Opt)->Opt:=Code.rec (motive:=fun _=>Loc->Hp->(Loc->Hp->Opt)->(Ex->Loc->Hp->Opt)->Opt)
 (skip:=fun l h a _=>a l h)
 (region:=fun _ g k l h a d=>Bool.rec (opsK E R cx g.toList a d g.toList l h) (Bool.rec (drawK E R cx g.toList l h a) (d9 (cutD E R cx g.toList l h) a d) (E.cut cx.fn)) k)
 (seq:=fun _ _ i j l h a d=>i l h (fun l h=>j l h a d) d)
 (cond:=fun c _ _ i j l h a d=>Option.rec none (fun t=>Bool.rec (j l h a d) (i l h a d) t) (asBool (evK l c)))
 (block:=fun id _ m l h a d=>m l h a (fun e l h=>blkK e id a d l h))
 (loop:=fun b m l h a d=>m l h (fun l h=>M cx (.loop b) l h a d) d)
 (rangeFunc:=fun f p o n _ _ l h a d=>d9 (js R cx (evK l f) p o n l h) a d)
 (exit:=fun id l h _ d=>d (.exit id) l h)
 (scope:=fun _ m l h a d=>m l h a d)
 (label:=fun _ l h a _=>a l h)
 (goto:=fun _ _ _ _ _=>none)
 (ret:=fun l h _ d=>d .ret l h)
 (refuse:=fun _ _ _ _ _=>none) c
abbrev qm:=Option (Out×Option (Value×Bool)×Hp)
def xC(E:Env)(R:Rec)(b:Func)(l:Loc)(h':Hp):qm:=match cI R l.dfs none h' with
 | some (none,a)=>match bR E l.regs a b.results.toList with
   |none=>none|some c=>some (.ret (ab c),l.rc,a)
 |_=>none
def doneK(E:Env)(R:Rec)(a:Func)(l:Loc)(h:Hp):qm:=List.rec (motive:=fun _=>qm)
 (Option.rec none (fun b=>some (.ret (ab b),l.rc,h)) (bR E l.regs h a.results.toList)) (fun _ _ _=>xC E R a l h) l.dfs
def slowPan(E:Env)(R:Rec)(b:Func)(v:Value)(l:Loc)(h':Hp):qm:=match cI R l.dfs (some v) h' with
 |none=>none|some (some v,a)=>some (.pan v,l.rc,a)| some (none,a)=>match bR E l.regs a b.results.toList with
   |none=>none|some c=>some (.ret (ab c),l.rc,a)
def exLeave(e:Ex):Env->Rec->Func->Loc->Hp->qm:=Ex.rec (motive:=fun _=>Env->Rec->Func->Loc->Hp->qm) doneK (fun _ _ _ _ _ _=>none) doneK (fun v E R a l h=>slowPan E R a v l h) e
def leaveK(E:Env)(R:Rec)(a:Func)(r:Opt):qm:=Option.rec none (fun q=>Prod.rec (fun e b=>Prod.rec (fun l h=>exLeave e E R a l h) b) q) r
def yh(E:Env)(R:Rec)(f:FuncId)(args:List Value)(rc:Option (Value×Bool))(h:Hp)(a:Func)(body:Code):qm:=
 Bool.rec none (leaveK E R a (R.code ⟨f,a.ntmps,none⟩ body ⟨(Tr.blank (.tuple #[]) a.ntmps a.ntmps).setAll 0 args,[],rc⟩ h)) (Xb args.length a.ntmps)
def callBK(E:Env)(R:Rec)(f:FuncId)(args:List Value)(rc:Option (Value×Bool))(h:Hp):qm:=
 Option.rec none (fun b=>Option.rec none (fun a=>yh E R f args rc h b a) b.body) (E.fn f)
def yo(E:Env)(R:Rec)(f:FuncId)(args:List Value)(rc:Option (Value×Bool))(h:Hp):qm:=
 Option.rec (callBK E R f args rc h) (fun v=>Option.rec (some (.ret v,none,h)) (fun _=>none) rc) (E.orc f args)
structure RK where
 call:FuncId->List Value->Option (Value×Bool)->Hp->qm
 code:CodeM
def RK.rec'(K:RK):Rec:=⟨K.call,fun a c l h=>K.code a c l h (fun l h=>some (.normal,l,h)) (fun e l h=>some (e,l,h))⟩
def botK:RK:=⟨fun _ _ _ _=>none,fun _ _ _ _ _ _=>none⟩
def nextRK(E:Env)(K:RK):RK:=⟨fun f a b h=>yo E K.rec' f a b h,fun d c l h e g=>pO E K.rec' K.code d c l h e g⟩
def runK(E:Env)(n:Nat):RK:=Nat.rec botK (fun _ K=>nextRK E K) n
def envK(a:Tr Func)(b:Tr TypeInfo)(c:List Nat):Env:={fn:=fun f=>getK a f,ty:=fun t=>getK b t,eqok:=fun t=>oS t c}
end
noncomputable section
theorem getK_eq{a:Type}(t:Tr a)(i:Nat):getK t i=t.get i:=rfl
theorem setK_eq{a:Type}(t:Tr a)(i:Nat)(x:a):setK t i x=t.set i x:=rfl
theorem oU(l:Loc)(d:Option Tmp)(v:Value):iC l d v=l.put d v:=by
 cases d with
 |none=>rfl|some t=>show Loc.mk (setK l.regs t v) l.dfs l.rc=_;rw [setK_eq];rfl
theorem ir(l:Loc):evK l=l.ev:=by
 funext x;cases x with
 | tmp t=>
   show Option.rec (motive:=fun _=>Value) _ _ (getK l.regs t)=_;rw [getK_eq];simp only [Loc.ev];cases l.regs.get t<;>rfl
 |const v=>simp only [Loc.ev];show Bool.rec (motive:=fun _=>Value) poison v (du v)=_;cases du v<;>rfl
 |global g=>simp only [Loc.ev];show Bool.rec (motive:=fun _=>Value) poison _ (Xt g 16)=_;cases Xt g 16<;>rfl
 |func f=>rfl
theorem bind2_id(x:Opt):d9 x (fun l h=>some (.normal,l,h)) (fun e l h=>some (e,l,h))=x:=by
 cases x with
 |none=>rfl|some q=>obtain⟨e,l,h⟩:=q;cases e<;>rfl
theorem tV(x:Opt)(c:Loc->Hp->Opt)(a1:Ex->Loc->Hp->Opt)(d:Loc->Hp->Opt)(a:Ex->Loc->Hp->Opt)(b: ∀e l h,e≠ .normal->a1 e l h=a e l h):
 d9 x (fun l h=>d9 (c l h) d a) a1=d9 (match x with
  |some (.normal,l,h)=>c l h|r=>r) d a:=by
 cases x with
 |none=>rfl| some q=>
   obtain⟨e,l,h⟩:=q;cases e with
   |normal=>rfl|exit i=>exact b _ _ _ (by simp)|ret=>exact b _ _ _ (by simp)|pan v=>exact b _ _ _ (by simp)
theorem binK_eq(E:Env)(op:BinOp)(t:TypeId)(x y:Operand)(a b:Value):binK E op t x y a b=bV E op t x y a b:=by
 cases a<;>(try rfl);cases b<;>(try rfl);rename_i k m c n;cases op<;>(try rfl)
 all_goals (show Bool.rec (motive:=fun _=>Option Value) none _ (jO k c)=(bif jO k c then _ else none);cases jO k c<;>rfl)
theorem retK_eq(r:Option Value)(o:Oper)(l:Loc)(h:Hp)(E:Env)(R:Rec)(a:Loc->Hp->Opt)(b:Ex->Loc->Hp->Opt):lJ r o.dst l h a=d9 (pQ o l (dB E R (cV h r))) a b:=by
 cases r with
 |none=>rfl|some v=>show a (iC l o.dst v) h=a (l.put o.dst v) h;rw [oU]
theorem retHK_eq(r:Option (Hp×Value))(o:Oper)(l:Loc)(E:Env)(R:Rec)(a:Loc->Hp->Opt)(b:Ex->Loc->Hp->Opt):retHK r o.dst l a=d9 (pQ o l (dB E R (dD r))) a b:=by
 cases r with
 |none=>rfl|some p=>obtain⟨h,v⟩:=p;show a (iC l o.dst v) h=a (l.put o.dst v) h;rw [oU]
theorem retUK_eq(r:Option Hp)(o:Oper)(l:Loc)(E:Env)(R:Rec)(a:Loc->Hp->Opt)(b:Ex->Loc->Hp->Opt):vG r o.dst l a=d9 (pQ o l (dB E R (fU r))) a b:=by
 cases r with
 |none=>rfl|some h=>show a (iC l o.dst (.tuple #[])) h=a (l.put o.dst (.tuple #[])) h;rw [oU]
theorem resK_eq(R:Rec)(g:FuncId)(args:List Value)(o:Oper)(l:Loc)(h:Hp)(E:Env)(a:Loc->Hp->Opt)(b:Ex->Loc->Hp->Opt):
 resK (R.call g args none h) o.dst l a b=d9 (pQ o l (dB E R (some (.call g args,h)))) a b:=by
 simp only [dB];cases R.call g args none h with
 |none=>rfl| some q=>
   obtain⟨x,d,c⟩:=q;cases x with
   |ret v=>show a (iC l o.dst v) c=a (l.put o.dst v) c;rw [oU]|pan v=>rfl
theorem oz{R:Rec}{l:Loc}{x:Option (dM×Hp)}(a:aop E l.ev h o.op=x)(b: ∀h',x≠some (.recov,h'))(c: ∀d h',x≠some (.defer d,h')):eY E R cx o l h=pQ o l (dB E R x):=by
 unfold eY;rw [a]
 split
 . exact absurd rfl (b _)
 . exact absurd rfl (c _ _)
 . rfl
theorem xd{r:Option Value}:(∀h',cV h r≠some (.recov,h'))/\ ∀d h',cV h r≠some (.defer d,h'):=by cases r<;>exact⟨by intros;simp [cV],by intros;simp [cV]⟩
theorem xG{r:Option (Hp×Value)}:(∀h',dD r≠some (.recov,h'))/\ ∀d h',dD r≠some (.defer d,h'):=by cases r<;>exact⟨by intros;simp [dD],by intros;simp [dD]⟩
theorem xj{r:Option Hp}:(∀h',fU r≠some (.recov,h'))/\ ∀d h',fU r≠some (.defer d,h'):=by cases r<;>exact⟨by intros;simp [fU],by intros;simp [fU]⟩
theorem opK_eq(E:Env)(R:Rec)(cx:Cx)(o:Oper)(l:Loc)(h:Hp)(q:Loc->Hp->Opt)(s:Ex->Loc->Hp->Opt):opK o.op E R cx o.dst l h q s=d9 (eY E R cx o l h) q s:=by
 have w: ∀r,aop E l.ev h o.op=cV h r->lJ r o.dst l h q=d9 (eY E R cx o l h) q s:=fun r A=>by rw [oz A xd.1 xd.2];exact retK_eq r o l h E R q s
 have B: ∀r,aop E l.ev h o.op=dD r->retHK r o.dst l q=d9 (eY E R cx o l h) q s:=fun r A=>by rw [oz A xG.1 xG.2];exact retHK_eq r o l E R q s
 have C: ∀r,aop E l.ev h o.op=fU r->vG r o.dst l q=d9 (eY E R cx o l h) q s:=fun r A=>by rw [oz A xj.1 xj.2];exact retUK_eq r o l E R q s
 obtain⟨j,op,D,pos,z,guard⟩:=o;simp only []at w B C⊢;cases op
 case move x=>have:=w (some (l.ev x)) rfl;rw [<-this];show q (iC l j (evK l x)) h=q (iC l j (l.ev x)) h;rw [ir]
 case assign x=>have:=w (some (l.ev x)) rfl;rw [<-this];show q (iC l j (evK l x)) h=q (iC l j (l.ev x)) h;rw [ir]
 case load t a=>rw [<-w _ rfl];show lJ (fV E h t (evK l a)) j l h q=_;rw [ir]
 case store t a v=>rw [<-C _ rfl];show vG (jV E h t (evK l a) (evK l v)) j l q=_;rw [ir]
 case binOp b t x y u=>rw [<-w (bV E b t x y (l.ev x) (l.ev y)) rfl];show lJ (binK E b t x y (evK l x) (evK l y)) j l h q=_;rw [ir,binK_eq]
 case unOp b t x=>rw [<-w (unP b (l.ev x)) rfl];show lJ (unP b (evK l x)) j l h q=_;rw [ir]
 case fieldAddr t x i=>rw [<-w (aG E t (l.ev x) i) rfl];show lJ (aG E t (evK l x) i) j l h q=_;rw [ir]
 case field t x i=>rw [<-w (bG E t (l.ev x) i) rfl];show lJ (bG E t (evK l x) i) j l h q=_;rw [ir]
 case indexAddr t x i=>rw [<-w (fZ E t (l.ev x) (l.ev i)) rfl];show lJ (fZ E t (evK l x) (evK l i)) j l h q=_;rw [ir]
 case index t x i=>rw [<-w (iY E t (l.ev x) (l.ev i)) rfl];show lJ (iY E t (evK l x) (evK l i)) j l h q=_;rw [ir]
 case lookup t m k b=>rw [<-w _ rfl];show lJ (dw E h t (evK l m) (evK l k) b) j l h q=_;rw [ir]
 case mapUpdate t m k v=>rw [<-C _ rfl];show vG (d6 E h t (evK l m) (evK l k) (evK l v)) j l q=_;rw [ir]
 case mapEntry t m k=>rw [<-B _ rfl];show retHK (kY E h t (evK l m) (evK l k)) j l q=_;rw [ir]
 case call c=>
  show callK c E R cx j l h q s=_;unfold callK;cases F:c.callee with
  |invoke r n=>rfl|builtin b=>rfl| value f=>
    show Option.rec (motive:=fun _=>Opt) (dI (.call c) E R cx j l h q s) _ (asFn (evK l f))=_;rw [ir];cases hf:asFn (l.ev f)with
    |none=>rfl| some p=>
      obtain⟨g,a,b⟩:=p;have B:l.ev f=.func (.func g) a b:=by
       unfold asFn at hf
       split at hf
       . rename_i G;cases hf;exact G
       . cases hf
      have A:aop E l.ev h (.call c)=some (.call g (a.toList++c.args.toList.map l.ev++b.toList),h):=(by simp only [aop,F,B,target]);rw [oz (o:=⟨j,.call c,D,pos,z,guard⟩) A (by intro H e;cases e) (by intro d H e;cases e)];exact resK_eq R g _ ⟨j,.call c,D,pos,z,guard⟩ l h E q s
 all_goals rfl
theorem Aa(ops:List Oper)(l:Loc)(o:Oper):sQ ops l o=cJ ops l.regs o:=by
 unfold sQ;cases a:o.guard with
 |none=>unfold cJ;rw [a]|some q=>rfl
theorem opsK_eq(E:Env)(R:Rec)(cx:Cx)(ops:List Oper)(c:Loc->Hp->Opt)(a:Ex->Loc->Hp->Opt): ∀(os:List Oper) (l:Loc) (h:Hp),opsK E R cx ops c a os l h=d9 (je E R cx ops os l h) c a
 | [],l,h=>rfl| o ::os,l,h=>by
   have d:=opsK_eq E R cx ops c a os;show Option.rec (motive:=fun _=>Opt) none (fun b=>Bool.rec (opsK E R cx ops c a os (iC l o.dst (.tuple #[])) h) (opK o.op E R cx o.dst l h (opsK E R cx ops c a os) a) b) (sQ ops l o)=_;rw [Aa];simp only [je];cases cJ ops l.regs o with
   |none=>rfl| some b=>
     cases b with
     |false=>show opsK E R cx ops c a os (iC l o.dst (.tuple #[])) h=_;rw [d,oU]| true=>
       show opK o.op E R cx o.dst l h (opsK E R cx ops c a os) a=_;rw [opK_eq,show opsK E R cx ops c a os=fun l h=>d9 (je E R cx ops os l h) c a from funext fun l=>funext fun h=>d l h];rw [tV _ _ _ _ _ (fun _ _ _ _=>rfl)];simp only [];cases eY E R cx o l h with
       |none=>rfl|some q=>obtain⟨e,f,g⟩:=q;cases e<;>rfl
end
noncomputable section
theorem zQ(E:Env)(R:Rec)(l:Loc)(a:Bool)(o:Oper)(h:Hp):di E R (l.evD (tmpsOf o.op.operands.toList)) a o h=di E R l.ev a o h:=by unfold di;rw [wz (vw l o.op),wz (vw l o.op)]
theorem fast_step{R:Rec}{l:Loc}(hf:sC o.op=true){K:Value->Hp->Opt}:
 d9 (eY E R cx o l h) (fun l' h'=>none) (fun _ _ _=>none)=none/\
 ∀ b:Loc->Hp->Opt,d9 (eY E R cx o l h) b (fun _ _ _=>none)=(match di E R l.ev false o h with
   |none=>none|some (v,h')=>b (l.put o.dst v) h'):=by
 have c: ∀x,aop E l.ev h o.op=x->((∃e r,x=cV e r)\/(∃r,x=dD r)\/ ∃r,x=fU r)-> ∀b:Loc->Hp->Opt,d9 (eY E R cx o l h) b (fun _ _ _=>none)=(match di E R l.ev false o h with
  |none=>none|some (v,h')=>b (l.put o.dst v) h'):=by
  intro x g i b;have j:(∀h',x≠some (.recov,h'))/\ ∀d h',x≠some (.defer d,h'):=by
   rcases i with⟨e,r,rfl⟩|⟨r,rfl⟩|⟨r,rfl⟩
   . exact xd
   . exact xG
   . exact xj
  rw [oz g j.1 j.2];simp only [di,cond_false,g];rcases i with⟨e,r,rfl⟩|⟨r,rfl⟩|⟨r,rfl⟩<;>cases r<;>rfl
 have a:(∃e r,aop E l.ev h o.op=cV e r)\/(∃r,aop E l.ev h o.op=dD r)\/ ∃r,aop E l.ev h o.op=fU r:=by
  obtain⟨k,op,m,pos,f,guard⟩:=o;simp only []at hf⊢;cases op<;>(try (cases hf;done))
  all_goals first
   |exact .inl ⟨h,some (l.ev _),rfl⟩
   |exact .inl ⟨h,_,rfl⟩
   |exact .inr (.inl ⟨_,rfl⟩)
   |exact .inr (.inr ⟨_,rfl⟩)
 refine⟨?_,c _ rfl a⟩;rw [c _ rfl a];cases di E R l.ev false o h<;>rfl
theorem wW(E:Env)(q i:Nat)(op:Op):tJ E q i op=fF E q i op:=by
 unfold tJ fF;cases a:Xd q 0 with
 | true=>have:q=0:=Xe a;subst this;simp|false=>cases Nat.testBit q i<;>rfl
theorem elseDK_eq (E:Env) (R:Rec) (d:Bool) (o:Oper) (l:Loc) (h:Hp) (k:Value->Hp->Opt):yz E R d o l h k=mU E R d o l h k:=by
 unfold yz;cases e:asCall o.op with
 |none=>rfl| some c=>
   show callDK E R d o c l h k=_;have t:o.op=.call c:=by
    unfold asCall at e
    split at e
    . rename_i i;cases e;exact i
    . cases e
   unfold callDK;cases j:c.callee with
   |invoke r n=>rfl|builtin b=>rfl| value f =>
     show Option.rec (motive:=fun _=>Opt) (mU E R d o l h k) _ (asFn (evK l f))=_;rw [ir];cases hf:asFn (l.ev f)with
     |none=>rfl| some p=>
       obtain⟨g,a,b⟩:=p;have u:l.ev f=.func (.func g) a b:=by
        unfold asFn at hf
        split at hf
        . rename_i i;cases hf;exact i
        . cases hf
       have s: ∀h,aop E l.ev h o.op=some (.call g (a.toList++c.args.toList.map l.ev++b.toList),h):=(by intro h;rw [t];simp only [aop,j,u,target]);unfold mU di;cases d with
       | false=>
         simp only [cond_false,s,dB];show resDK (R.call g (a.toList++c.args.toList.map l.ev++b.toList) none h) k=_;cases R.call g (a.toList++c.args.toList.map l.ev++b.toList) none h with
         |none=>rfl|some q=>obtain⟨x,w,m⟩:=q;cases x<;>rfl
       | true=>
         simp only [cond_true,s,dB];show resDK (R.call g (a.toList++c.args.toList.map l.ev++b.toList) none {h with lo:=h.n}) (yN h k)=_;cases R.call g (a.toList++c.args.toList.map l.ev++b.toList) none {h with lo:=h.n}with
         |none=>rfl| some q=>
           obtain⟨x,w,m⟩:=q;cases x with
           |pan v=>rfl| ret v=>
             show yN h k v m=_;simp only [yN];cases Xb h.n m.lo<;>rfl
theorem CT(h:sC op=true):dN op=false:=by cases op<;>first|rfl|exact absurd h (by simp [sC])
theorem AZ (E:Env) (R:Rec) (cx:Cx) (ops:List Oper) (q:Nat) (K:Loc->Hp->List (Nat×Tch)->Opt): ∀(os:List Oper) (i:Nat) (l:Loc) (h:Hp) (a:List (Nat×Tch)),
 qv E R cx ops q (fun _ l h a=>K l h a) os i l h a=(match bZ E R ops q os i l h a with
  |none=>none|some (l',h',d)=>K l' h' d)
 | [],i,l,h,a=>rfl| o :: os,i,l,h,a=>by
   have g:=AZ E R cx ops q K os;show Option.rec (motive:=fun _=>Opt) none (fun b=>Bool.rec (qv E R cx ops q (fun _ l h a=>K l h a) os (i+1) (iC l o.dst (.tuple #[])) h a) (yL E R cx q o (qv E R cx ops q (fun _ l h a=>K l h a) os) i l h a) b) (sQ ops l o)=_;rw [Aa];simp only [bZ];cases cJ ops l.regs o with
   |none=>rfl| some b=>
     cases b with
     |false=>show qv E R cx ops q (fun _ l h a=>K l h a) os (i+1) (iC l o.dst (.tuple #[])) h a=_;rw [g,oU]
     | true=>
       show yL E R cx q o (qv E R cx ops q (fun _ l h a=>K l h a) os) i l h a=_;simp only [];have c: ∀f,fF E q i o.op=f->mU E R f o l h (fun v h'=>qv E R cx ops q (fun _ l h a=>K l h a) os (i+1) (iC l o.dst v) h' (iR i a (cQ (l.evD (tmpsOf o.op.operands.toList)) f o.op h h')))=
        (match(match di E R (l.evD (tmpsOf o.op.operands.toList)) (fF E q i o.op) o h with
          |none=>none|some (v,h')=>bZ E R ops q os (i+1) (l.put o.dst v) h' (iR i a (cQ (l.evD (tmpsOf o.op.operands.toList)) (fF E q i o.op) o.op h h')))with
          |none=>none|some (l',h',d)=>K l' h' d):=by
        intro f e;rw [e,zQ];unfold mU;cases di E R l.ev f o h with
        |none=>rfl|some p=>obtain⟨v,h'⟩:=p;show qv E R cx ops q _ os (i+1) (iC l o.dst v) h' _=_;rw [g,oU]
       unfold yL;cases hf:sC o.op with
       | false=>show yz E R (tJ E q i o.op) o l h _=_;rw [elseDK_eq,wW];exact c _ rfl| true=>
         have k: ∀b (h h':Hp),cQ (l.evD (tmpsOf o.op.operands.toList)) b o.op h h'=yr l o.op:=(by intro b h h';have j:fJ o.op=false:=(by cases m:o.op<;>first|rfl|(rw [m]at hf;simp [sC]at hf));unfold cQ yr jR;rw [CT hf,j];rfl);simp only [k]at c⊢;cases e:tJ E q i o.op with
         | true=>rw [wW]at e;exact c true e| false=>
           rw [wW]at e;show opK o.op E R cx o.dst l h _ _=_;rw [opK_eq,(fast_step (R:=R) hf (K:=fun _ _=>none)).2,zQ,e];cases di E R l.ev false o h with
           |none=>rfl|some p=>obtain⟨v,h'⟩:=p;simp only [];rw [g]
theorem codeK_eq(E:Env)(R:Rec)(M:CodeM)(D: ∀cx c l h d g,M cx c l h d g=d9 (R.code cx c l h) d g)(cx:Cx): ∀(c:Code) (l:Loc) (h:Hp) (d:Loc->Hp->Opt) (g:Ex->Loc->Hp->Opt),
 pO E R M cx c l h d g=d9 (aP E R cx c l h) d g:=by
 intro c
 induction c with
 |skip=>intro l h d g;rfl|label n=>intro l h d g;rfl| region id j s=>
   intro l h d g;cases s with
   |false=>exact opsK_eq E R cx j.toList d g j.toList l h| true=>
     show(Bool.rec (motive:=fun _=>Opt) (drawK E R cx j.toList l h d) (d9 (cutD E R cx j.toList l h) d g) (E.cut cx.fn):Opt)=_;simp only [aP,cond_true];cases E.cut cx.fn with
     |true=>rfl|false=>
     show drawK E R cx j.toList l h d=_;simp only [cond_false];unfold drawK drawKo;generalize cu j.toList=r;cases jT E r with
     |none=>rfl| some p=>
       obtain⟨q,u⟩:=p;show qv E R cx r q (fun _ l h B=>Bool.rec none (d l h) (cR B u)) r 0 l h []=_;rw [AZ E R cx r q (fun l h B=>Bool.rec none (d l h) (cR B u))];simp only [];cases bZ E R r q r 0 l h []with
       |none=>rfl| some x=>
         obtain⟨a,b,c⟩:=x;simp only [];cases cR c u<;>rfl
 | seq a b k o=>
   intro l h d g;show pO E R M cx a l h (fun l h=>pO E R M cx b l h d g) g=_;rw [k,show(fun l h=>pO E R M cx b l h d g)=fun l h=>d9 (aP E R cx b l h) d g from funext fun l=>funext fun h=>o l h d g];rw [tV _ _ _ _ _ (fun _ _ _ _=>rfl)];simp only [aP];cases aP E R cx a l h with
   |none=>rfl|some q=>obtain⟨e,z,A⟩:=q;cases e<;>rfl
 | cond c a b k o=>
   intro l h d g;show Option.rec (motive:=fun _=>Opt) none (fun t=>Bool.rec (pO E R M cx b l h d g) (pO E R M cx a l h d g) t) (asBool (evK l c))=_;rw [ir,k,o];simp only [aP];cases l.ev c<;>(try rfl);rename_i t;cases t<;>rfl
 | block id b w=>
   intro l h d g;show pO E R M cx b l h d (fun e l h=>blkK e id d g l h)=_;rw [w];simp only [aP];cases aP E R cx b l h with
   |none=>rfl| some q=>
     obtain⟨e,z,A⟩:=q;cases e with
     |normal=>rfl|ret=>rfl|pan v=>rfl| exit i=>
       show Bool.rec (motive:=fun _=>Opt) (g (.exit i) z A) (d z A) (Xd i id)=_;simp only [];cases Xd i id<;>rfl
 | loop b w=>
   intro l h d g;show pO E R M cx b l h (fun l h=>M cx (.loop b) l h d g) g=_;rw [w,show(fun l h=>M cx (.loop b) l h d g)=fun l h=>d9 (R.code cx (.loop b) l h) d g from funext fun l=>funext fun h=>D cx (.loop b) l h d g];rw [tV _ _ _ _ _ (fun _ _ _ _=>rfl)];simp only [aP];cases aP E R cx b l h with
   |none=>rfl|some q=>obtain⟨e,z,A⟩:=q;cases e<;>rfl
 | rangeFunc f u C y _ _=>intro l h d g;show d9 (js R cx (evK l f) u C y l h) d g=_;rw [ir];rfl|exit id=>intro l h d g;rfl|scope b w=>intro l h d g;exact w l h d g|goto n=>intro l h d g;rfl|ret=>intro l h d g;rfl|refuse m=>intro l h d g;rfl
theorem Cq(E:Env)(R:Rec)(a:Func)(l:Loc)(h:Hp):doneK E R a l h=xC E R a l h:=by
 unfold doneK xC;cases b:l.dfs with
 |cons d c=>rfl| nil=>
   simp only [cI];cases bR E l.regs h a.results.toList<;>rfl
theorem callBK_eq(E:Env)(R:Rec)(f:FuncId)(args:List Value)(rc:Option (Value×Bool))(h:Hp):callBK E R f args rc h=mE E R f args rc h:=by
 unfold callBK mE;cases E.fn f with
 |none=>rfl| some b=>
   show Option.rec (motive:=fun _=>qm) none (fun a=>yh E R f args rc h b a) b.body=_;simp only [];cases b.body with
   |none=>rfl| some a=>
     show yh E R f args rc h b a=_;unfold yh;simp only [];cases Xb args.length b.ntmps with
     |false=>rfl| true=>
       show leaveK E R b _=_;simp only [cond_true];cases R.code ⟨f,b.ntmps,none⟩ a ⟨(Tr.blank (.tuple #[]) b.ntmps b.ntmps).setAll 0 args,[],rc⟩ h with
       |none=>rfl| some q=>
         obtain⟨e,l,c⟩:=q;cases e with
         |exit i=>rfl|pan v=>rfl|normal=>exact Cq E R b l c|ret=>exact Cq E R b l c
theorem callSK_eq(E:Env)(R:Rec)(f:FuncId)(args:List Value)(rc:Option (Value×Bool))(h:Hp):yo E R f args rc h=jB E R f args rc h:=by
 unfold yo jB;cases E.orc f args with
 |none=>exact callBK_eq E R f args rc h|some v=>cases rc<;>rfl
theorem Bn(E:Env): ∀n,(runK E n).rec'=run E n/\ ∀cx c l h b d,(runK E n).code cx c l h b d=d9 ((run E n).code cx c l h) b d
 |0=>⟨rfl,fun _ _ _ _ _ _=>rfl⟩
 | n+1=>by
   obtain⟨i,k⟩:=Bn E n;have j: ∀cx c l h b d,(runK E (n+1)).code cx c l h b d=d9 ((run E (n+1)).code cx c l h) b d:=(by intro cx c l h b d;show pO E (runK E n).rec' (runK E n).code cx c l h b d=d9 (aP E (run E n) cx c l h) b d;rw [i];exact codeK_eq E (run E n) (runK E n).code k cx c l h b d);refine⟨?_,j⟩;show Rec.mk (fun f a g h=>yo E (runK E n).rec' f a g h) (fun cx c l h=>(runK E (n+1)).code cx c l h (fun l h=>some (.normal,l,h)) (fun e l h=>some (e,l,h)))=next E (run E n)
   rw [i];unfold next
   congr 1
   . funext f a g h;exact callSK_eq E (run E n) f a g h
   . funext cx c l h;rw [j,bind2_id];rfl
theorem runK_call(E:Env)(n:Nat)(f:FuncId)(args:List Value)(rc:Option (Value×Bool))(h:Hp):(runK E n).call f args rc h=(run E n).call f args rc h:=by rw [<-(Bn E n).1];rfl
theorem envK_eq(a:Tr Func)(b:Tr TypeInfo)(c:List Nat):envK a b c=envOf a b c:=rfl
end
section
variable{E:Env}{ρ:Operand->Value}{h:Hp}
theorem o_move:aop E ρ h (.move x)=some (.val (ρ x),h):=rfl
theorem o_assign:aop E ρ h (.assign x)=some (.val (ρ x),h):=rfl
theorem o_load{a:Operand}:aop E ρ h (.load t a)=cV h (fV E h t (ρ a)):=rfl
theorem o_store{a:Operand}:aop E ρ h (.store t a x)=fU (jV E h t (ρ a) (ρ x)):=rfl
theorem o_binOp{op:BinOp}{u:TypeId}:aop E ρ h (.binOp op t x y u)=cV h (bV E op t x y (ρ x) (ρ y)):=rfl
theorem o_unOp{op:UnOp}:aop E ρ h (.unOp op t x)=cV h (unP op (ρ x)):=rfl
theorem Ey{a b:Array Operand}:aop E ρ h (.makeFunc (.func f) a b)=some (.val (.func (.func f) (a.map ρ) (b.map ρ)),h):=rfl
theorem o_slice{l u m:Option Operand}:aop E ρ h (.slice t x l u m)=cV h (ic E t (ρ x) (l.map ρ) (u.map ρ) (m.map ρ)):=rfl
theorem Do:aop E ρ h (.fieldAddr s x i)=cV h (aG E s (ρ x) i):=rfl
theorem o_field:aop E ρ h (.field s x i)=cV h (bG E s (ρ x) i):=rfl
theorem Dk{i:Operand}:aop E ρ h (.indexAddr t x i)=cV h (fZ E t (ρ x) (ρ i)):=rfl
theorem o_index{i:Operand}:aop E ρ h (.index t x i)=cV h (iY E t (ρ x) (ρ i)):=rfl
theorem o_build{ps:Array (Nat×Operand)}:aop E ρ h (.build t ps)=cV h (jQ E t (ps.toList.map fun p=>(p.1,ρ p.2))):=rfl
theorem Cv{ps:Array (Nat×Operand)}:aop E ρ h (.buildSlice t n ps)=dD (lq E h t n (ps.toList.map fun p=>(p.1,ρ p.2))):=rfl
theorem De{l:Operand}:aop E ρ h (.makeSlice t l c)=dD (kK E h t (ρ l) (ρ c)):=rfl
theorem B7{a:Bool}:aop E ρ h (.typeAssert x s t a)=cV h (qO E (ρ x) t a):=rfl
theorem o_convert:aop E ρ h (.convert s t x)=dD (jz E h s t (ρ x)):=rfl
theorem o_lookup{m k:Operand}{a:Bool}:aop E ρ h (.lookup t m k a)=cV h (dw E h t (ρ m) (ρ k) a):=rfl
theorem CM{m k v:Operand}:aop E ρ h (.mapUpdate t m k v)=fU (d6 E h t (ρ m) (ρ k) (ρ v)):=rfl
theorem D0{m k:Operand}:aop E ρ h (.mapEntry t m k)=dD (kY E h t (ρ m) (ρ k)):=rfl
theorem BT{m s v:Operand}:aop E ρ h (.entryStore t m s v)=fU (m8 h (ρ m) (ρ s) (ρ v)):=rfl
theorem o_callv{f:Operand}{as:Array Operand}{ts:Array TypeId}:aop E ρ h (.call ⟨.value f,as,ts⟩)=match target (ρ f) (as.toList.map ρ)with|none=>none|some x=>some (x,h):=rfl
theorem o_max{ts:Array TypeId}:aop E ρ h (.call ⟨.builtin .max,#[x,y],ts⟩)=cV h (iI true (ρ x) [ρ y]):=rfl
theorem o_min{ts:Array TypeId}:aop E ρ h (.call ⟨.builtin .min,#[x,y],ts⟩)=cV h (iI false (ρ x) [ρ y]):=rfl
theorem o_append{s:Operand}{ts:Array TypeId}:aop E ρ h (.call ⟨.builtin .append,#[s,x],ts⟩)=dD (dK E h ts.toList (ρ s) (ρ x)):=rfl
theorem o_copy{s:Operand}{ts:Array TypeId}:aop E ρ h (.call ⟨.builtin .copy,#[s,x],ts⟩)=dD (copyV E h ts.toList (ρ s) (ρ x)):=rfl
end
theorem EB:cV h (some v)=some (.val v,h):=rfl
theorem DW:dD (some (h,v))=some (.val v,h):=rfl
theorem EC:fU (some h)=some (.skip,h):=rfl
theorem hU(k:IntKind):jO k k=true:=by rw [iU];simp
theorem b_add{n:Int}:bV E .add t x y (.int k m) (.int k n)=some (.int k (an k (m+n))):=by simp [bV,hU,jd]
theorem b_sub{n:Int}:bV E .sub t x y (.int k m) (.int k n)=some (.int k (an k (m-n))):=by simp [bV,hU,jd]
theorem b_mul{n:Int}:bV E .mul t x y (.int k m) (.int k n)=some (.int k (an k (m*n))):=by simp [bV,hU,jd]
theorem pD(m n:Int):jg m n=decide (m=n):=by rw [iW];by_cases h:m=n<;>simp [h]
theorem b_eql{n:Int}:bV E .eql t x y (.int k m) (.int k n)=some (.bool (decide (m=n))):=by simp [bV,hU,jd,pD]
theorem b_neq{n:Int}:bV E .neq t x y (.int k m) (.int k n)=some (.bool (!decide (m=n))):=by simp [bV,hU,jd,pD]
theorem b_lss{n:Int}:bV E .lss t x y (.int k m) (.int k n)=some (.bool (decide (m<n))):=by simp [bV,hU,jd,jj]
theorem b_leq{n:Int}:bV E .leq t x y (.int k m) (.int k n)=some (.bool (decide (m<=n))):=by
 simp only [bV,hU,jd,jj,cond_true];by_cases a:m<=n
 . rw [decide_eq_true a,decide_eq_false (by omega)];rfl
 . rw [decide_eq_false a,decide_eq_true (by omega)];rfl
theorem b_gtr{n:Int}:bV E .gtr t x y (.int k m) (.int k n)=some (.bool (decide (n<m))):=by simp [bV,hU,jd,jj]
theorem b_geq{n:Int}:bV E .geq t x y (.int k m) (.int k n)=some (.bool (decide (n<=m))):=by
 simp only [bV,hU,jd,jj,cond_true];by_cases a:n<=m
 . rw [decide_eq_true a,decide_eq_false (by omega)];rfl
 . rw [decide_eq_false a,decide_eq_true (by omega)];rfl
theorem mL{n:Int}(h:n≠0):bV E .quo t x y (.int k m) (.int k n)=some (.int k (an k (m.tdiv n))):=by simp [bV,hU,jd,pD,h]
theorem jL{n:Int}(h:n≠0):bV E .rem t x y (.int k m) (.int k n)=some (.int k (m.tmod n)):=by simp [bV,hU,jd,pD,h]
theorem mm_max{k':IntKind}{a b:Int}:iI true (.int k a) [.int k' b]=some (.int k (max a b)):=by
 simp only [iI,jj,cond_true];by_cases h:a<b
 . rw [decide_eq_true h];simp only [cond_true];rw [Int.max_eq_right (by omega)]
 . rw [decide_eq_false h];simp only [cond_false];rw [Int.max_eq_left (by omega)]
theorem mm_min{k':IntKind}{a b:Int}:iI false (.int k a) [.int k' b]=some (.int k (min a b)):=by
 simp only [iI,jj,cond_false];by_cases h:b<a
 . rw [decide_eq_true h];simp only [cond_true];rw [Int.min_eq_right (by omega)]
 . rw [decide_eq_false h];simp only [cond_false];rw [Int.min_eq_left (by omega)]
theorem mw{o:Nat}{s:Option Nat}(a:E.agg t=some false)(c:h.load b o 1=some [v]):fV E h t (.pointer (some ⟨b,o,s⟩))=some v:=by simp [fV,a,c]
theorem wrap64{n:Int}(a: -9223372036854775808<=n)(b:n<9223372036854775808):an .i64 n=n:=by
 unfold an;cases n with
 | ofNat m=>have:Xt m (hf .i64)=true:=(by rw [Nat.blt_eq];simp only [hf];have c:(m:Int)<9223372036854775808:=b;omega);simp only [this,cond_true]| negSucc m=>have:Xt m (hf .i64)=true:=(by rw [Nat.blt_eq];simp only [hf];have: -9223372036854775808<=Int.negSucc m:=a;omega);simp only [sgn,this,cond_true]
theorem wD{c:Type}{a:c}{P:c->Prop}:(∃b,some a=some b/\P b)↔P a:=⟨fun⟨b,d,e⟩=>by cases d;exact e,fun h=>⟨a,rfl,h⟩⟩
theorem CY{a:Bool}{P:Bool->Prop}:(∃t,Value.bool a=Value.bool t/\P t)↔P a:=⟨fun⟨b,c,d⟩=>by cases c;exact d,fun h=>⟨a,rfl,h⟩⟩
theorem cG:dh (v::l) 0=v:=rfl
theorem dr:dh (v::l) (i+1)=dh l i:=rfl
section
variable{l:Loc}
theorem c_int{n:Int}:l.ev (.const (.int k n))=.int k n:=rfl
theorem c_bool{b:Bool}:l.ev (.const (.bool b))=.bool b:=rfl
theorem c_string{s:ByteArray}:l.ev (.const (.string s))=.string s:=rfl
theorem c_nilp:l.ev (.const (.pointer none))=.pointer none:=rfl
theorem c_nils:l.ev (.const (.slice none 0 0))=.slice none 0 0:=rfl
theorem c_nilm:l.ev (.const (.map none))=.map none:=rfl
theorem c_nilf:l.ev (.const .nilFunc)=.nilFunc:=rfl
theorem c_nili:l.ev (.const .nilIface)=.nilIface:=rfl
end
def one1:Option (List Value)->Option Value
 |some [v]=>some v|_=>none
theorem one1_some:one1 (some [v])=some v:=rfl
theorem Du{o:Nat}{s:Option Nat}(a:E.agg t=some false):fV E h t (.pointer (some ⟨b,o,s⟩))=one1 (h.load b o 1):=by simp only [fV,a];unfold one1;rfl
def gv(a:Bool):Option Value->Option Bool
 |some (.bool b)=>some (bif b then a else !a)
 |some (.tuple _)=>some false|_=>none
noncomputable def gj(a:Bool)(b:Tr Value):Option Oper->Option Bool
 |none=>some false| some o=>match o.dst with
   |none=>some false|some d=>gv a (b.get d)
theorem DP{c:Tr Value}{d:Option Tmp}{p:String}{e:Array Edge}{b:Bool}:cJ a c ⟨d,op,t,p,e,some (j,b)⟩=gj b c (a[j]?):=by
 simp only [cJ,gj];cases a[j]? with
 |none=>rfl| some o=>
   simp only [];cases o.dst with
   |none=>rfl| some d=>
     simp only [gv];cases c.get d with
     |none=>rfl|some v=>cases v<;>rfl
theorem gj_some{a:Bool}{b:Tr Value}{d:Tmp}{p:String}{c:Array Edge}{g:Option (Nat×Bool)}:gj a b (some ⟨some d,op,t,p,c,g⟩)=gv a (b.get d):=rfl
theorem gv_true{b:Bool}:gv true (some (.bool b))=some b:=by cases b<;>rfl
theorem gv_false{b:Bool}:gv false (some (.bool b))=some (!b):=by cases b<;>rfl
theorem gv_tuple{a:Bool}{x:Array Value}:gv a (some (.tuple x))=some false:=rfl
theorem u_not{b:Bool}:unP .not (.bool b)=some (.bool (!b)):=rfl
theorem target_fn{g:FuncId}{a b:Array Value}:target (.func (.func g) a b) args=some (.call g (a.toList++args++b.toList)):=rfl
theorem n_new{x:Blk}:(h.new x).n=h.n+1:=rfl
def aO(E:Env)(f:FuncId)(args:List Value)(h:Hp)(v:Value):Prop:=Ret E f args h fun a b=>a=v/\Gr h b
theorem cD{Q:gp}{k:List Fr}{l:Loc}{b:Code}:Run E (lim E) cx Q (.code (.loop b)::k) .normal l h↔Run E (lim E) cx Q (.code b:: .code (.loop b)::k) .normal l h:=by
 rw [<-run_seq];simp only [Run];have:aP E (lim E) cx (.loop b) l h=aP E (lim E) cx (.seq b (.loop b)) l h:=by
  simp only [aP];cases aP E (lim E) cx b l h with
  |none=>rfl| some q=>
    obtain⟨e,a,c⟩:=q;cases e with
    |normal=>show(lim E).code cx (.loop b) a c=_;rw [zu];rfl|exit i=>rfl|ret=>rfl|pan v=>rfl
 rw [this]
def lenK(r:Option (dM×Hp))(h:Hp):Option Value->Option (dM×Hp)
 |some v=>some (.val v,h)|none=>r
theorem o_lenK:aop E ρ h (.call ⟨.builtin .len,#[x],#[t]⟩)=lenK (match ρ x with
 | .map (some r)=>match h.get r with
   |some (.map a _)=>match E.und t with
    |some (.map _ _)=>some (.val (.int .i64 (.ofNat a.length)),h)|_=>none
   |_=>none
 |_=>none) h (lenP E t (ρ x)):=by
 simp only [aop,pop];cases lenP E t (ρ x)with
 |some v=>rfl| none=>
   simp only [lenK];cases ρ x<;>rfl
theorem natOf_nn{i:Int}(h:0<=i):jf i=some i.toNat:=by
 cases i with
 |ofNat n=>rfl|negSucc n=>exact absurd h (by simp)
theorem idxP_in{i:Int}(h0:0<=i)(a:i<n):iN (.int k i) n=some i.toNat:=by
 simp only [iN,natOf_nn h0];have:Xt i.toNat n=true:=by rw [Nat.blt_eq];omega
 rw [this];rfl
theorem iD(a:i<n):iN (.int k (i:Int)) n=some i:=by rw [idxP_in (Int.natCast_nonneg i) (by omega)];simp
theorem ia_slice{k:Nat}{a:Addr}{c:Nat}(b:E.und t=some (.slice e))(d:E.sz e=some k):fZ E t (.slice (some a) n c) v=(iN v n).map fun i=>.pointer (some (ig a (i*k))):=by simp only [fZ,b,d];cases iN v n<;>rfl
theorem ag{l:Loc}{K:Ex->Loc->Hp->Prop}(a:aO E f args h v)(b: ∀h',Gr h h'->K .normal (l.put o.dst v) h'):gH E cx o l K (some (.call f args,h)):=
 step_ret a fun c h' ⟨e,g⟩=>by rw [e];exact b h' g
theorem yG{K:Value->Hp->Prop}(a:aO E f args h v)(b: ∀h',Gr h h'->K v h'):lN E K (some (.call f args,h)):=
 uU a fun c h' ⟨e,g⟩=>by rw [e];exact b h' g
section
variable(E:Env)(cx:Cx)(Q:gp)
def GStep(a:List Oper)(o:Oper)(os:List Oper)(k:List Fr)(l:Loc)(h:Hp):Option Bool->Prop
 |some true=>gH E cx o l (fun e b c=>Run E (lim E) cx Q (.ops a os::k) e b c) (aop E l.ev h o.op)
 |some false=>Run E (lim E) cx Q (.ops a os::k) .normal (l.put o.dst (.tuple #[])) h|none=>False
def CStep(a b:Code)(k:List Fr)(l:Loc)(h:Hp):Value->Prop
 | .bool true=>Run E (lim E) cx Q (.code a::k) .normal l h| .bool false=>Run E (lim E) cx Q (.code b::k) .normal l h|_=>False
def yB(a:List Oper)(q:Nat)(ps:List (Nat×Nat))(o:Oper)(os:List Oper)(i:Nat)(c:List (Nat×Tch))(k:List Fr)(l:Loc)(h:Hp):Option Bool->Bool->Prop
 |some true,false=>lN E (fun v b=>Run E (lim E) cx Q (.opsD a q ps os (i+1) (iR i c (cQ l.ev false o.op h b))::k) .normal (l.put o.dst v) b) (aop E l.ev h o.op)
 |some true,true=>lN E (fun v b=>Xb h.n b.lo=true/\Run E (lim E) cx Q (.opsD a q ps os (i+1) (iR i c (cQ l.ev true o.op h h))::k) .normal (l.put o.dst v) {b with lo:=h.lo}) (aop E l.ev {h with lo:=h.n} o.op)
 |some false,_=>Run E (lim E) cx Q (.opsD a q ps os (i+1) c::k) .normal (l.put o.dst (.tuple #[])) h|none,_=>False
end
section
variable{E:Env}{cx:Cx}{Q:gp}{k:List Fr}{l:Loc}{h:Hp}
theorem r_ops:Run E (lim E) cx Q (.ops a (o::os)::k) .normal l h↔GStep E cx Q a o os k l h (cJ a l.regs o):=by
 rw [Cu];cases cJ a l.regs o with
 |none=>exact⟨fun⟨_,e,_⟩=>(by cases e),fun h=>h.elim⟩
 | some b=>
   rw [wD];cases b with
   |true=>rw [if_pos rfl];exact then_step|false=>rw [if_neg (by simp)];exact zM
theorem g_true:GStep E cx Q a o os k l h (some true)↔gH E cx o l (fun e l' h'=>Run E (lim E) cx Q (.ops a os::k) e l' h') (aop E l.ev h o.op):=zM
theorem g_false:GStep E cx Q a o os k l h (some false)↔Run E (lim E) cx Q (.ops a os::k) .normal (l.put o.dst (.tuple #[])) h:=zM
theorem r_cond{a b:Code}:Run E (lim E) cx Q (.code (.cond c a b)::k) .normal l h↔CStep E cx Q a b k l h (l.ev c):=by
 rw [run_cond];cases l.ev c<;>(try (exact⟨fun⟨_,e,_⟩=>(by cases e),fun h=>h.elim⟩));rename_i t;rw [CY];cases t with
 |true=>rw [if_pos rfl];exact zM|false=>rw [if_neg (by simp)];exact zM
theorem c_true{a b:Code}:CStep E cx Q a b k l h (.bool true)↔Run E (lim E) cx Q (.code a::k) .normal l h:=zM
theorem c_false{a b:Code}:CStep E cx Q a b k l h (.bool false)↔Run E (lim E) cx Q (.code b::k) .normal l h:=zM
theorem r_opsD{c:List (Nat×Tch)}:Run E (lim E) cx Q (.opsD a q ps (o::os) i c::k) .normal l h↔yB E cx Q a q ps o os i c k l h (cJ a l.regs o) (fF E q i o.op):=by
 rw [run_opsD];cases cJ a l.regs o with
 |none=>exact⟨fun⟨_,e,_⟩=>(by cases e),fun h=>h.elim⟩
 | some b=>
   rw [wD];cases b with
   | true=>
     rw [if_pos rfl];cases fF E q i o.op with
     |true=>rw [if_pos rfl];exact zM|false=>rw [if_neg (by simp)];exact zM
   |false=>rw [if_neg (by simp)];exact zM
theorem d_skip{c:List (Nat×Tch)}{b:Bool}:yB E cx Q a q ps o os i c k l h (some false) b↔Run E (lim E) cx Q (.opsD a q ps os (i+1) c::k) .normal (l.put o.dst (.tuple #[])) h:=zM
theorem kw{a:List (Nat×Tch)}:iR i a none=a:=rfl
theorem aN{b:Tch}{a:List (Nat×Tch)}:iR i a (some b)=(i,b)::a:=rfl
theorem aR{a:List (Nat×Tch)}:cR a []=true:=rfl
theorem guard_no{b:Tr Value}{d:Option Tmp}{p:String}{c:Array Edge}:cJ a b ⟨d,op,t,p,c,none⟩=some true:=rfl
end
theorem b_eqlB{a b:Bool}(c:E.und t=some .bool):bV E .eql t x y (.bool a) (.bool b)=some (.bool (bif a then b else !b)):=by simp [bV,iq,fj,c]
theorem b_neqB{a b:Bool}(c:E.und t=some .bool):bV E .neq t x y (.bool a) (.bool b)=some (.bool (!(bif a then b else !b))):=by simp [bV,iq,fj,c]
theorem same_bool{d:Bool}:(bif d then d else !d)=true:=by cases d<;>rfl
noncomputable def boxR(h:Hp)(t:TypeId):Value->Option (dM×Hp)
 | .chan _=>none|v=>some (.val (ptrTo h.n),h.new (.cells (Tr.ofList (ae v)) (ae v).length t 1))
theorem o_boxR:aop E ρ h (.box t x)=boxR h t (ρ x):=by simp only [aop];cases ρ x<;>rfl
noncomputable def allocR(h:Hp)(t:TypeId):Option (List Value)->Option (dM×Hp)
 |none=>none|some z=>some (.val (ptrTo h.n),h.new (.cells (Tr.ofList z) z.length t 1))
theorem o_allocR:aop E ρ h (.alloc t)=allocR h t (E.zero t):=by simp only [aop];cases E.zero t<;>rfl
section
variable{E:Env}{cx:Cx}{o:Oper}{l:Loc}{K:Ex->Loc->Hp->Prop}{h:Hp}
theorem av{ops:List Oper}(h:((ops.any uv||uz ops)&&ops.all (jn ops.length))=false):cu ops=ops:=by unfold cu;rw [h];rfl
theorem ao{Q:gp}{k:List Fr}(b:cu ops.toList=os)(c:jT E os=some (q,ps))(d:Run E (lim E) cx Q (.opsD os q ps os 0 []::k) .normal l h)(a:E.cut cx.fn=false:=by rfl):Run E (lim E) cx Q (.code (.region id ops true)::k) .normal l h:=(run_draw a b c).2 d
theorem DX{Q:gp}{k:List Fr}(b:lu ops.toList (ops.toList.length-1)=true)(c:cutN ops.toList=n)(d:cu (ops.toList.take n)=os)(e:jT E os=some (q,ps))
 (f:Run E (lim E) cx Q (.opsD os q ps os 0 []:: .ops ops.toList (ops.toList.drop n)::k) .normal l h) (a:E.cut cx.fn=true:=by rfl) (hf:uH E ops.toList=false:=by rfl):Run E (lim E) cx Q (.code (.region id ops true)::k) .normal l h:=run_split a b hf c d e f
end
theorem BI(g:Gr {h with lo:=h.n} h'):Xb h.n h'.lo=true:=g.hlo
theorem gr_lo(g:Gr {h with lo:=h.n} h'):Gr h {h' with lo:=h.lo}:=
 ⟨g.ok0,g.ok,g.n,g.get,fun _ _ h=>h⟩
theorem hush_s:fF E q i op=(decide (q/2 ^i%2=1)&&decide (3<=cls E op)):=by unfold fF;rw [Nat.testBit_eq_decide_div_mod_eq,fe]
theorem CZ{K:Value->Hp->Prop}(a:aO E f args {h with lo:=h.n} v)(b: ∀h',Gr h h'->K v h'):
 lN E (fun v h'=>Xb h.n h'.lo=true/\K v {h' with lo:=h.lo}) (some (.call f args,{h with lo:=h.n})):=
 yG a fun h' g=>⟨BI g,b _ (gr_lo g)⟩
section
variable(E:Env)(cx:Cx)(Q:gp)(a:List Oper)(q:Nat)(ps:List (Nat×Nat))(o:Oper)(os:List Oper)(i:Nat)(k:List Fr)(l:Loc)
def DN(c:Hp->List (Nat×Tch))(x:Option (dM×Hp)):Prop:=lN E (fun v b=>Run E (lim E) cx Q (.opsD a q ps os (i+1) (c b)::k) .normal (l.put o.dst v) b) x
def DQ(h:Hp)(c:List (Nat×Tch))(x:Option (dM×Hp)):Prop:=lN E (fun v b=>Xb h.n b.lo=true/\Run E (lim E) cx Q (.opsD a q ps os (i+1) c::k) .normal (l.put o.dst v) {b with lo:=h.lo}) x
end
section
variable{E:Env}{cx:Cx}{Q:gp}{a:List Oper}{q:Nat}{ps:List (Nat×Nat)}{o:Oper}{os:List Oper}{i:Nat}{k:List Fr}{l:Loc}{h:Hp}{tr:List (Nat×Tch)}{tf:Hp->List (Nat×Tch)}
theorem dn_loud:yB E cx Q a q ps o os i tr k l h (some true) false↔DN E cx Q a q ps o os i k l (fun h'=>iR i tr (cQ l.ev false o.op h h')) (aop E l.ev h o.op):=zM
theorem dn_quiet:yB E cx Q a q ps o os i tr k l h (some true) true↔DQ E cx Q a q ps o os i k l h (iR i tr (cQ l.ev true o.op h h)) (aop E l.ev {h with lo:=h.n} o.op):=zM
theorem dn_val:DN E cx Q a q ps o os i k l tf (some (.val v,h'))↔Run E (lim E) cx Q (.opsD a q ps os (i+1) (tf h')::k) .normal (l.put o.dst v) h':=zM
theorem dn_skip:DN E cx Q a q ps o os i k l tf (some (.skip,h'))↔Run E (lim E) cx Q (.opsD a q ps os (i+1) (tf h')::k) .normal (l.put o.dst (.tuple #[])) h':=zM
theorem bU{P:Value->Hp->Prop}(b:Ret E f args h P)(c: ∀v h',P v h'->Run E (lim E) cx Q (.opsD a q ps os (i+1) (tf h')::k) .normal (l.put o.dst v) h'):DN E cx Q a q ps o os i k l tf (some (.call f args,h)):=uU b c
theorem bz(b:aO E f args h v)(c: ∀h',Gr h h'->Run E (lim E) cx Q (.opsD a q ps os (i+1) (tf h')::k) .normal (l.put o.dst v) h'):DN E cx Q a q ps o os i k l tf (some (.call f args,h)):=yG b c
theorem vg(b:aO E f args {h with lo:=h.n} v)(c: ∀h',Gr h h'->Run E (lim E) cx Q (.opsD a q ps os (i+1) tr::k) .normal (l.put o.dst v) h'):DQ E cx Q a q ps o os i k l h tr (some (.call f args,{h with lo:=h.n})):=CZ b c
theorem dq_ret{P:Value->Hp->Prop}(b:Ret E f args {h with lo:=h.n} fun v h'=>Gr {h with lo:=h.n} h'/\P v {h' with lo:=h.lo})(c: ∀v h',Gr h h'->P v h'->Run E (lim E) cx Q (.opsD a q ps os (i+1) tr::k) .normal (l.put o.dst v) h'):DQ E cx Q a q ps o os i k l h tr (some (.call f args,{h with lo:=h.n})):=
 uU b fun v h' ⟨g,p⟩=>⟨BI g,c v _ (gr_lo g) p⟩
end
theorem ah:ptrTo b=.pointer (some ⟨b,0,none⟩):=rfl
section
open Go.ChangeShapes Go.WideShapes Go.RowKit
theorem len2{c:Type}{l:List c}(h:l.length=2): ∃a b,l=[a,b]:=by
 match l,h with
 | [a,b],_=>exact⟨a,b,rfl⟩
section
variable{H:Type}{enc:TypeId×Value->H}{P:Program}
theorem uf(f:laidOutB P=true){W g:World}(i:Below W.heap.size W g): ∀{ts:List TypeId} {vs:List Value} {c:List (DataW H)} {ps:List MemPlace},(ts.all fun t=>P.readableRec t&&decide (t<P.types.size))=true->
 DataW.TrodAll enc P W 0 (fun _=>true) true ts vs c ps->(∀x∈ps,x.block<W.heap.size)->DataW.TrodAll enc P g 0 (fun b=>decide (b<W.heap.size)) true ts vs c ps
 | [],vs,c,ps,_,h,_=>by
   obtain⟨rfl,rfl,rfl⟩:=trodAll_nil h;exact rfl
 | t::ts,vs,c,ps,a,h,hlt=>by obtain⟨v,j,d,k,p,q,rfl,rfl,rfl,l,m⟩:=trodAll_cons h;simp only [List.all_cons,Xf,decide_eq_true_eq]at a;exact⟨p,q,Below.trod f a.1.1 a.1.2 l i (fun x e=>hlt x (by simp [e])),uf f i a.2 m (fun x e=>hlt x (by simp [e])),rfl⟩
theorem AK{f:Func}{s:ChangeSpec}{a b:Bool}{u:World}{args:Array Value}{g:List (DataW H)}{c:List MemPlace}{bt:TypeId}
 (y:laidOutB P=true) (k:(f.params.toList.all fun t=>P.readableRec t&&decide (t<P.types.size))=true) (v:s.vars=[])
 (l:DataW.Whole enc P f.params.toList s.vars a W args.toList g [] c) (d:s.fn H (g++[])={results:=[.lit (.bool true)],args:=g}) (j:Below W.heap.size W u)
 (m:P.underlying bt=some .bool) (n:f.resultTypes=#[bt]):
 s.post enc P f a true b false W args (.bool true) u:=by
 have hlt:=l.lt;have o:=l;obtain⟨p,q,z,w,rfl,C,D⟩:=l;rw [v]at w;obtain⟨_,rfl⟩:=trodVars_none w;refine⟨g,[],_,[],p,[],o,?_,?_,?_,⟨j.os,j.output,fun i A=>?_⟩,fun h=>by cases h⟩
 . rw [d,n];exact trodAll_cons_mk (shut_bool m _) trodAll_mk0
 . rw [d];exact uf y j k z (fun x B=>hlt x (by simpa using B))
 . rw [d,v];rfl
 . rw [j.block i A]
   split
   . rename_i r e;rw [r]at e;cases e;exact⟨rfl,rfl,rfl,fun _ _=>rfl⟩
   . rename_i r e;rw [r]at e;cases e;exact .inr ⟨rfl,rfl⟩
   . rfl
end
end
section
open Go.ChangeShapes Go.WideShapes Go.RowKit
noncomputable section
def lK(n:Nat):Value->Value
 | .bool b=>.bool b| .int k i=>.int k i| .string s=>.string s| .pointer none=>.pointer none| .pointer (some a)=>if a.spot=none/\a.block<n then .pointer (some ⟨a.block+16,a.off,none⟩)else poison
 | .slice none 0 0=>.slice none 0 0| .slice (some a) c d=>if c<=d then(if a.spot=none/\a.block<n then .slice (some ⟨a.block+16,a.off,none⟩) c d else .slice (some ⟨0,0,none⟩) c d)else poison
 |_=>poison
def absA(n:Nat):Value->Value
 | .agg a=>.agg ⟨a.toList.map (lK n)⟩|v=>lK n v
def absO(n:Nat):Obj->Blk
 | .cells a _ _=>.cells (Tr.ofList (a.toList.map (lK n))) (a.toList.map (lK n)).length 0 0|_=>.dead
def hpW(W:World):Hp:={n:=16+W.heap.size,t:=Tr.ofList (Xh 16 .dead++W.heap.toList.map (absO W.heap.size)),lo:=16+W.heap.size}
def muW(W:World):Mu:=fun b=>if b<16 then .dead else match W.heap[b-16]? with
 |some (.cells a _ _)=>.blk (b-16) 0 a.size|some _=>.dead|none=>.none
theorem hpW_ok(W:World):(hpW W).t.Sized (hpW W).n:=by
 have h:=Tr.sized_ofList (Xh 16 Blk.dead++W.heap.toList.map (absO W.heap.size));have a:(Xh 16 Blk.dead++W.heap.toList.map (absO W.heap.size)).length=16+W.heap.size:=by grind
 rw [a]at h;exact h
theorem hpW_dead(W:World)(h:b<16):(hpW W).get b=some .dead:=by show(Tr.ofList _).get b=_;rw [Tr.get_ofList,Xs (by simpa using h),Xu,if_pos h]
theorem us(W:World)(c:Nat):(hpW W).get (c+16)=(W.heap[c]?).map (absO W.heap.size):=by show(Tr.ofList _).get (c+16)=_;rw [Tr.get_ofList,List.getElem?_append_right (by simp)];simp
theorem qd(W:World)(c:Nat):muW W (c+16)=match W.heap[c]? with
 |some (.cells cs _ _)=>.blk c 0 cs.size|some _=>.dead|none=>.none:=by
 rfl
theorem arel_W{a:Addr}(h:a.spot=none/\a.block<W.heap.size):fK (muW W) ⟨a.block+16,a.off,none⟩ a:=by obtain⟨b,o,s⟩:=a;grind[fK,qd,Xj]
theorem vrel_V(W:World)(v:Value):aw (muW W) (lK W.heap.size v) v:=by
 cases v<;>(try exact .poison _)
 . exact .bool _
 . exact .int _ _
 . exact .string _
 . rename_i a;cases a with
   |none=>exact .nilp| some a=>
     simp only [lK]
     split
     . exact .ptr (arel_W ‹_›)
     . exact .poison _
 . rename_i a d e;cases a with
   | none=>
     cases d with
     | zero=>cases e with
       |zero=>exact .nils|succ n=>exact .poison _
     |succ n=>exact .poison _
   | some a=>
     simp only [lK]
     split
     . rename_i c
       split
       . rename_i h;refine .slice c ?_;have:=arel_W h;obtain⟨b,o,s⟩:=a;grind[eB,qd,Xj]
       . refine .slice c ?_;simp_all[eB,muW,Xc]
     . exact .poison _
theorem vrel_A(W:World)(v:Value):aw (muW W) (absA W.heap.size v) v:=by
 cases v
 case agg b=>
  refine .agg (by simp) fun i x c a d=>?_;simp only [Xq,Xk]at a;obtain⟨y,e,rfl⟩:=a;grind[vrel_V]
 all_goals (unfold absA;exact vrel_V W _)
theorem hrelW(W:World):bg (muW W) (hpW W) W:=by
 refine⟨hpW_ok W,fun b c a e d=>?_,fun b d=>?_,fun b t c a e f l u w=>?_,fun b d=>?_⟩
 . have x:16<=b:=by
    rcases Xn b 16 with h|h
    . simp_all[muW,if_pos]
    . exact h
   obtain⟨k,rfl⟩: ∃k,b=k+16:=⟨b-16,by omega⟩;rw [qd]at d
   split at d
   next m n p q=>
    cases d;refine⟨absO W.heap.size (.cells m n p),_,by rw [us,q];rfl,q,m,n,p,rfl,rfl,by simp,Tr.sized_ofList _,fun i v g=>?_,fun h=>absurd rfl h⟩;rw [Tr.get_ofList]at g;simp only [Xq,Xk]at g;obtain⟨y,z,rfl⟩:=g;grind[vrel_V]
   next=>cases d
   next=>cases d
 . rcases Xn b 16 with h|h
   . exact hpW_dead W h
   . obtain⟨k,rfl⟩: ∃k,b=k+16:=⟨b-16,by omega⟩;rw [qd]at d
     split at d
     next=>cases d
     next o r j=>
      rw [us,j];cases o<;>first|rfl|grind
     next=>cases d
 . have s: ∀b c a e,muW W b=.blk c a e->b=c+16:=by
    intro b c a e d;rcases Xn b 16 with h|h
    . simp_all[muW,if_pos]
    . obtain⟨k,rfl⟩: ∃k,b=k+16:=⟨b-16,by omega⟩;grind[qd]
   grind
 . show b<16+W.heap.size;rcases Xn b 16 with h|h
   . omega
   . obtain⟨k,rfl⟩: ∃k,b=k+16:=⟨b-16,by omega⟩;rw [qd]at d;grind
theorem globW(W:World):ni (muW W):=by intro g a;simp_all[fK,muW,if_pos]
theorem belowW{w':World}{f:Mu}(e:Ext (muW W) (hpW W) W f h' w'):Below W.heap.size W w':=by
 refine⟨e.os,e.tape,e.output,e.wsize,fun c i=>?_⟩;cases m:W.heap[c]with
 | cells g n o=>have j:W.heap[c]? =some (.cells g n o):=(by grind);have p:muW W (c+16)=.blk c 0 g.size:=(by rw [qd,j]);exact(e.ro (c+16) c 0 g.size _ _ 0 p (by rw [us,j];rfl)).1| _ =>
   refine e.frame c i fun b l q a=>?_;rcases Xn b 16 with h|h
   . unfold muW at a;rw [if_pos h]at a;cases a
   . obtain⟨k,rfl⟩: ∃k,b=k+16:=⟨b-16,by omega⟩;rw [qd]at a
     split at a
     next r s t d=>
      cases a;rw [Xj i,m]at d;cases d
     next=>cases a
     next=>cases a
theorem calls_W(d:EOk E P){args:Array Value}(h:aO E f (args.toList.map (absA W.heap.size)) (hpW W) (.bool true)):
 Calls P f args W fun e w'=>e=.returned (.bool true)/\Below W.heap.size W w':=by
 obtain⟨v,A,j,rfl,g⟩:=h;intro k;obtain⟨_,a⟩:=lim_ok d _ _ _ _ _ _ _ j;have l:VL (muW W) (args.toList.map (absA W.heap.size)) args.toList:=by refine⟨by simp,fun i x B a C=>?_⟩;simp only [Xq,Xk]at a;obtain⟨y,D,rfl⟩:=a;grind[vrel_A]
 obtain⟨m,w',c,n,F,o,G,p,q,r,s⟩:=a (muW W) W args none k .normal (hrelW W) (globW W) l trivial (.inl rfl);have:=p.normal;subst this;obtain⟨H,b,t⟩:=r;cases t;obtain⟨u,w,z⟩:=b.res;exact⟨.returned (.bool true),w',n,⟨rfl,belowW o⟩,q,s,b.mode,b.defers,b.kind,u,w,z⟩
theorem load_W{a:Addr}(c:a.spot=none)(h:W.cell? (a.add i)=some v):(hpW W).load (a.block+16) (a.off+i) 1=some [lK W.heap.size v]:=by
 obtain⟨b,o,s⟩:=a;simp only []at c;subst c;have d:(Addr.mk b o none).add i=⟨b,o+i,none⟩:=by grind[Addr.add]
 rw [d]at h;unfold World.cell? at h;simp only []at h
 split at h
 next e k l f=>
  have g:Row (hpW W) (b+16) (e.toList.map (lK W.heap.size)) 0:=⟨_,_,by rw [us,f];rfl,Tr.sized_ofList _,fun j=>Tr.get_ofList _ j⟩;refine g.load1 ?_;grind
 grind
end
end
def argEq:Value->Value->Bool
 | .int k a,.int c b=>jO k c&&jg a b| .bool a,.bool b=>bif a then b else !b
 | .string s,.string u=>iX (aM s) (aM u)|_,_=>false
def q8:List Value->List Value->Bool
 | [],[]=>true|a::l,b::m=>argEq a b&&q8 l m|_,_=>false
def orcOf:List (Nat×List Value×Value)->Nat->List Value->Option Value
 | [],_,_=>none|(f,as,v)::l,g,a=>bif Xd f g&&q8 as a then some v else orcOf l g a
theorem BH{a b:Value}(h:argEq a b=true):a=b:=by
 unfold argEq at h
 split at h
 . rename_i k m c n;simp only [Xf]at h;have d:k=c:=(by simpa [iU]using h.1);have e:m=n:=(by simpa [iW]using h.2);rw [d,e]
 . rename_i a b;cases a<;>cases b<;>first|rfl|cases h
 . rename_i s u;have this:s.data.toList=u.data.toList:=(by have:=h;rw [kH]at this;simpa [aM]using this);cases s with|mk a=>cases u with|mk b=>rw [show a=b from Array.ext' this]
 . cases h
theorem zH: ∀{a b:List Value},q8 a b=true->a=b
 | [],[],_=>rfl| [],_::_,h=>by simp [q8]at h|_::_,[],h=>by simp [q8]at h| a::x,b::y,h=>by simp only [q8,Xf]at h;rw [zH h.2,BH h.1]
theorem zY{P:Nat->List Value->Value->Prop}: ∀{l:List (Nat×List Value×Value)},(∀e∈l,P e.1 e.2.1 e.2.2)-> ∀{g:Nat} {args:List Value} {v:Value},orcOf l g args=some v->P g args v
 | [],_,g,args,v,h=>by cases h
 | (f,as,x)::l,b,g,args,v,h=>by
   simp only [orcOf]at h;cases a:Xd f g&&q8 as args with
   | true=>
     rw [a]at h;cases h;simp only [Xf]at a;have c:=Xe a.1;have d:=zH a.2;subst c;subst d;exact b _ (Xo)
   | false=>
     rw [a]at h;exact zY (fun e i=>b e (List.mem_cons_of_mem _ i)) h
def isVal(v:Value)(r:Option (Out×Option (Value×Bool)×Hp)):Bool:=match r with
 |some (.ret u,none,_)=>argEq u v|_=>false
theorem isVal_ret{r:Option (Out×Option (Value×Bool)×Hp)}(h:isVal v r=true): ∃h',r=some (.ret v,none,h'):=by
 unfold isVal at h
 split at h
 . rw [BH h];exact⟨_,rfl⟩
 . cases h
def Known(E:Env)(P:Program)(e:Nat×List Value×Value):Prop:=(∃a,E.fn e.1=some a/\a.body.isSome=true)/\OrcAt P e.1 e.2.1 e.2.2
theorem known_of(c:EOk E P){f:Nat}(b:(args.all du&&du v)=true)(a:isVal v ((runK E n).call f args none hp0)=true):Known E P (f,args,v):=by simp only [Xf]at b;obtain⟨d,a⟩:=isVal_ret a;rw [runK_call]at a;exact Eo c b.1 b.2 a
theorem eok_table(b:EOk E P){l:List (Nat×List Value×Value)}(c: ∀e∈l,Known E P e):EOk (za E (orcOf l)) P:=
 eok_with b fun _ _ _ h=>zY (P:=fun g a v=>Known E P (g,a,v)) c h
inductive Ob where
 |row (l:List Value) (md:Nat)
 |map (es:List (Value×Value×Nat)) (c:Nat)
 |loop (x:fS)
 |dfr
def Has(h:Hp)(b:Nat):Ob->Prop
 | .row l a=>Row h b l a| .map d c=>h.get b=some (.map d c)| .loop x=>h.get b=some (.loop x)| .dfr=>h.get b=some .dfr
theorem Row.of_get(e:h'.get b=h.get b)(k:Row h b l md):Row h' b l md:=by obtain⟨t,f,a,c,d⟩:=k;exact⟨t,f,by rw [e];exact a,c,d⟩
theorem Has.of_get{h h':Hp}{b:Nat}{o:Ob}(e:h'.get b=h.get b)(k:Has h b o):Has h' b o:=by
 cases o with
 |row l a=>exact Row.of_get e k|map d c=>exact e.trans k|loop x=>exact e.trans k|dfr=>exact e.trans k
theorem Has.lt{h:Hp}(a:OZ h){b:Nat}{o:Ob}(k:Has h b o):b<h.n:=by
 cases o with
 |row l d=>exact Row.lt a k|map e c=>exact iu a k|loop x=>exact iu a k|dfr=>exact iu a k
structure Mo(M:Nat->Prop)(h h':Hp):Prop where
 ok0:OZ h
 ok:OZ h'
 n:h.n<=h'.n
 get: ∀b,b<h.n-> ¬M b->h'.get b=h.get b
 lo: ∀x,x<=h.n->x<=h.lo->(∀b,M b->x<=b)->x<=h'.lo
abbrev NoM:Nat->Prop:=fun _=>False
theorem Gr.fr(g:Gr h h'):Mo M h h':=⟨g.ok0,g.ok,g.n,fun b a _=>g.get b a,fun x c d _=>g.lo x c d⟩
theorem Mo.gr(g:Mo NoM h h'):Gr h h':=⟨g.ok0,g.ok,g.n,fun b a=>g.get b a (fun x=>x),fun x c d=>g.lo x c d (fun _ h=>h.elim)⟩
theorem Mo.refl{M:Nat->Prop}{h:Hp}(a:OZ h):Mo M h h:=(Gr.refl a).fr
theorem Mo.trans{M M':Nat->Prop}{a b c:Hp}(x:Mo M a b)(y:Mo M' b c)(e: ∀i,M' i->M i\/a.n<=i):Mo M a c:=
 ⟨x.ok0,y.ok,Xm x.n y.n,fun i f g=>(y.get i (Nat.lt_of_lt_of_le f x.n) (fun d=>(e i d).elim g (fun h=>by omega))).trans (x.get i f g),
  fun i k m l=>y.lo i (Xm k x.n) (x.lo i k m l) fun j n=>(e j n).elim (l j) (fun h=>by omega)⟩
theorem Mo.mono{M':Nat->Prop}{a b:Hp}(x:Mo M a b)(c: ∀i,M i->M' i):Mo M' a b:=
 ⟨x.ok0,x.ok,x.n,fun i d e=>x.get i d (fun h=>e (c i h)),fun i f g k=>x.lo i f g fun j l=>k j (c j l)⟩
theorem Mo.new{M:Nat->Prop}{a h:Hp}(g:Mo M a h)(x:Blk):Mo M a (h.new x):=g.trans (M':=NoM) (Gr.new g.ok x).fr (fun _ h=>h.elim)
theorem Mo.put{M:Nat->Prop}{a h:Hp}(g:Mo M a h){b:Nat}(f:a.n<=b\/M b)(x:Blk):Mo M a (h.put b x):=by refine g.trans (M':=fun i=>i=b) ⟨g.ok,put_ok g.ok b x,Xc _,fun i j c=>dA (fun e=>c e.symm),fun i k l d=>?_⟩ (fun i h=>by grind);show i<=dR b h.lo;have:=d b rfl;grind[dR,Xb]
theorem Mo.has{a:Hp}(g:Mo M a h){o:Ob}(k:Has a b o)(c: ¬M b):Has h b o:=Has.of_get (g.get b (k.lt g.ok0) c) k
abbrev GL:=Value×Nat×List Value
def eo:GL->Option Nat
 |(.slice (some a) _ _,_,_)=>some a.block|_=>none
def ia(h:Hp)(p:GL):Prop:=(p.1=.slice none 0 0/\p.2.2=[])\/ ∃b n,p.1=.slice (some ⟨b,0,some p.2.1⟩) n n/\n*p.2.1=p.2.2.length/\Row h b p.2.2 1
def keys(L:List (Nat×Ob))(G:List GL):List Nat:=L.map Prod.fst++G.filterMap eo
structure St(M:Nat->Prop)(h0 h:Hp)(L:List (Nat×Ob))(G:List GL):Prop where
 fr:Mo M h0 h
 own: ∀p∈L,(h0.n<=p.1\/M p.1)/\Has h p.1 p.2
 gown: ∀p∈G,ia h p/\ ∀b,eo p=some b->h0.n<=b\/M b
 apart:(keys L G).Nodup
section
variable{M:Nat->Prop}{h0 h:Hp}{L:List (Nat×Ob)}{G:List GL}
theorem ia.of_get{h':Hp}{p:GL}(k:ia h p)(e: ∀b,eo p=some b->h'.get b=h.get b):ia h' p:=by
 rcases k with k|⟨b,n,a,c,d⟩
 . exact .inl k
 . refine .inr ⟨b,n,a,c,Row.of_get (e b ?_) d⟩;obtain⟨v,k,f⟩:=p;simp only []at a;subst a;rfl
theorem ia.lt(d:OZ h){p:GL}(k:ia h p){b:Nat}(c:eo p=some b):b<h.n:=by
 rcases k with k|⟨j,n,a,e,f⟩
 . obtain⟨v,g,i⟩:=p;obtain⟨a,e⟩:=k;simp only []at a;subst a;cases c
 . obtain⟨v,g,i⟩:=p;simp only []at a;subst a;cases c;exact Row.lt d f
theorem iP{p:Nat×Ob}(a:p∈L):p.1∈keys L G:=List.mem_append_left _ (Xx a)
theorem fk{p:GL}(a:p∈G)(c:eo p=some b):b∈keys L G:=List.mem_append_right _ (List.mem_filterMap.2 ⟨p,a,c⟩)
theorem St.key_lt(S:St M h0 h L G)(a:b∈keys L G):b<h.n:=by
 unfold keys at a;rcases List.mem_append.1 a with a|a
 . obtain⟨p,c,rfl⟩:=List.mem_map.1 a;exact(S.own p c).2.lt S.fr.ok
 . obtain⟨p,c,d⟩:=List.mem_filterMap.1 a;exact(S.gown p c).1.lt S.fr.ok d
theorem St.init(a:OZ h):St M h h [] []:=⟨Mo.refl a,fun _ h=>(by cases h),fun _ h=>(by cases h),.nil⟩
theorem St.ok(S:St M h0 h L G):OZ h:=S.fr.ok
theorem St.gr(S:St NoM h0 h L G):Gr h0 h:=S.fr.gr
theorem St.push(S:St M h0 h L G){o:Ob}(d:h0.n<=b\/M b)(e:Has h b o)(c:b∉keys L G):St M h0 h ((b,o)::L) G:=
 ⟨S.fr,fun p a=>by
  rcases List.mem_cons.1 a with rfl|a
  . grind
  . exact S.own p a,S.gown,List.nodup_cons.2 ⟨c,S.apart⟩⟩
theorem St.step(S:St M h0 h L G){M':Nat->Prop}(f:Mo M' h h')(e: ∀b,M' b->M b\/h0.n<=b)(c: ∀b∈keys L G,¬M' b):St M h0 h' L G:=
 ⟨S.fr.trans f e,fun p a=>⟨(S.own p a).1,f.has (S.own p a).2 (c _ (iP a))⟩,
  fun p a=>⟨(S.gown p a).1.of_get fun b d=>f.get b ((S.gown p a).1.lt S.ok d) (c b (fk a d)),(S.gown p a).2⟩,S.apart⟩
theorem St.call(S:St M h0 h L G)(g:Gr h h'):St M h0 h' L G:=S.step (M':=NoM) g.fr (fun _ h=>h.elim) (fun _ _ h=>h)
theorem St.new(S:St M h0 h L G){x:Blk}{o:Ob}(a:Has (h.new x) h.n o):St M h0 (h.new x) ((h.n,o)::L) G:=
 (S.call (Gr.new S.ok x)).push (.inl S.fr.n) a (fun b=>by have:=S.key_lt b;omega)
theorem St.newG(S:St M h0 h L G){x:Blk}{k:Nat}(d:n*k=vs.length)(f:Row (h.new x) h.n vs 1):St M h0 (h.new x) L ((.slice (some ⟨h.n,0,some k⟩) n n,k,vs)::G):=by
 have a:=S.call (Gr.new S.ok x);refine⟨a.fr,a.own,fun p c=>?_,?_⟩
 . rcases List.mem_cons.1 c with rfl|c
   . exact⟨.inr ⟨_,n,rfl,d,f⟩,fun b g=>by cases g;exact .inl S.fr.n⟩
   . exact a.gown p c
 . unfold keys;have e:List.filterMap eo ((Value.slice (some ⟨h.n,0,some k⟩) n n,k,vs)::G)=h.n::List.filterMap eo G:=rfl;rw [e];refine(List.perm_middle.nodup_iff).2 (List.nodup_cons.2 ⟨fun i=>?_,S.apart⟩);have:=S.key_lt i;omega
theorem St.nilG(S:St M h0 h L G){k:Nat}:St M h0 h L ((.slice none 0 0,k,[])::G):=
 ⟨S.fr,S.own,fun p a=>by
  rcases List.mem_cons.1 a with rfl|a
  . exact⟨.inl ⟨rfl,rfl⟩,fun b c=>by cases c⟩
  . exact S.gown p a,S.apart⟩
theorem n8{a:Type}{l:List a}{x y:a}(h:y∈l.set i x):y=x\/ ∃j,j≠i/\l[j]? =some y:=by rw [List.mem_iff_getElem?]at h;grind
theorem qk{a:Type}{l:List a}(h:l.Nodup){x:a}(b:l[i]? =some x)(c:l[j]? =some x):i=j:=by grind[Xi,Nat.lt_trichotomy,absurd,List.pairwise_iff_getElem]
theorem nX{L:List (Nat×Ob)}{G:List GL}{p:Nat×Ob}(a:L[i]? =some p):(keys L G)[i]? =some p.1:=by grind[keys,Xi,Xs]
theorem St.put(S:St M h0 h L G){i b:Nat}{o o':Ob}(g:L[i]? =some (b,o)){x:Blk}(q:Has (h.put b x) b o'):St M h0 (h.put b x) (L.set i (b,o')) G:=by
 have k:=S.own _ (zO g);have f:(keys L G)[i]? =some b:=nX g;refine⟨S.fr.put k.1 x,fun p a=>?_,fun p a=>⟨(S.gown p a).1.of_get fun c l=>?_,(S.gown p a).2⟩,?_⟩
 . rcases n8 a with rfl|⟨j,m,a⟩
   . grind
   . have d:=S.own p (zO a);refine⟨d.1,d.2.of_get (dA fun e=>m ?_)⟩;have n:(keys L G)[j]? =some b:=(by rw [nX a];rw [e]);exact qk S.apart n f
 . refine dA fun e=>?_;subst e;have d:=S.apart;unfold keys at d;rw [List.nodup_append]at d;exact d.2.2 b (List.mem_map.2 ⟨_,zO g,rfl⟩) b (List.mem_filterMap.2 ⟨p,a,l⟩) rfl
 . have:keys (L.set i (b,o')) G=keys L G:=(by unfold keys;congr 1;rw [List.map_set];refine List.ext_getElem? fun j=>?_;grind);rw [this];exact S.apart
theorem St.row(S:St M h0 h L G){b:Nat}{l:List Value}{md:Nat}(a:(b,Ob.row l md)∈L):Row h b l md:=(S.own _ a).2
theorem St.ld(S:St M h0 h L G){o:Nat}(a:(b,Ob.row l md)∈L)(c:l[o]? =some v):h.load b o 1=some [v]:=(S.row a).load1 c
theorem St.lds(S:St M h0 h L G){o:Nat}(a:(b,Ob.row l md)∈L)(c:o+n<=l.length):h.load b o n=some ((l.drop o).take n):=(S.row a).load c
theorem m0{b:Type}{a:b}{l:List b}:a∈a::l:=Xo
theorem m1{c:Type}{a b:c}{l:List c}:a∈b::a::l:=.tail _ m0
theorem m2{d:Type}{a b c:d}{l:List d}:a∈b::c::a::l:=.tail _ m1
theorem m3{e:Type}{a b c d:e}{l:List e}:a∈b::c::d::a::l:=.tail _ m2
theorem m4{f:Type}{a b c d e:f}{l:List f}:a∈b::c::d::e::a::l:=.tail _ m3
theorem m5{g:Type}{a b c d e f:g}{l:List g}:a∈b::c::d::e::f::a::l:=.tail _ m4
theorem m6{i:Type}{a b c d e f g:i}{l:List i}:a∈b::c::d::e::f::g::a::l:=.tail _ m5
theorem m7{j:Type}{a b c d e f g i:j}{l:List j}:a∈b::c::d::e::f::g::i::a::l:=.tail _ m6
theorem St.old(S:St M h0 h L G){o:Nat}(e:h0.load b o n=some l)(a: ¬M b):h.load b o n=some l:=by have:=S.fr.get b (bA S.fr.ok0 e) a;grind[Hp.load]
end
def rF(h:Hp)(X:Hp->Option (dM×Hp))(F:Nat->Value)(o:Ob):Prop:=
 ∃a,(∀x,X {h with lo:=x}=some (.val (F h.n),({h with lo:=x}:Hp).new a))/\(OZ h->Has (h.new a) h.n o)
section
variable{M:Nat->Prop}{h0 h:Hp}{L:List (Nat×Ob)}{G:List GL}
section
variable{E:Env}{cx:Cx}{o:Oper}{l:Loc}{K:Ex->Loc->Hp->Prop}{X:Hp->Option (dM×Hp)}{F:Nat->Value}{ob:Ob}
theorem ac(N:rF h X F ob)(S:St M h0 h L G)(a: ∀h' b,St M h0 h' ((b,ob)::L) G->h0.n<=b->K .normal (l.put o.dst (F b)) h'):gH E cx o l K (X h):=by obtain⟨c,d,f⟩:=N;have e:X h=_:=d h.lo;rw [e];exact a _ _ (S.new (f S.ok)) S.fr.n
theorem df{Q:gp}{k:List Fr}{c:List (Nat×Tch)}(N:rF h X F ob)(S:St M h0 h L G)
 (d: ∀h' b,St M h0 h' ((b,ob)::L) G->h0.n<=b->b=h.n->Run E (lim E) cx Q (.opsD a q ps os (i+1) c::k) .normal (l.put o.dst (F b)) h'):DQ E cx Q a q ps o os i k l h c (X {h with lo:=h.n}):=by
 obtain⟨e,f,g⟩:=N;rw [f];exact⟨Xa (Xc _),d _ _ (S.new (g S.ok)) S.fr.n rfl⟩
end
theorem aV(b: ∀x,v≠ .chan x):rF h (fun h=>boxR h t v) ptrTo (.row (ae v) 1):=by refine⟨.cells (Tr.ofList (ae v)) (ae v).length t 1,fun x=>?_,fun a=>qN a _ _ _⟩;cases v<;>first|rfl|grind
theorem aA{z:List Value}:rF h (fun h=>allocR h t (some z)) ptrTo (.row z 1):=
 ⟨.cells (Tr.ofList z) z.length t 1,fun _=>rfl,fun a=>qN a _ _ _⟩
noncomputable def mapR(h:Hp):Option (dM×Hp):=some (.val (.map (some h.n)),h.new (.map [] 0))
theorem D9:aop E ρ h (.makeMap t none)=mapR h:=rfl
theorem oa:rF h mapR (fun b=>.map (some b)) (.map [] 0):=⟨.map [] 0,fun _=>rfl,fun a=>by show(h.new _).get h.n=_;rw [h.get_new _ a,if_pos rfl]⟩
theorem B6(a:List Value): ∀n,(bH a n).length=n*a.length
 |0=>by simp [bH]|n+1=>by simp only [bH,Xp,B6 a n];rw [Nat.succ_mul];omega
theorem row_blank(a:OZ h)(z:Value)(n:Nat)(e:TypeId):Row (h.new (.cells (Tr.blank z n n) n e 1)) h.n (Xh n z) 1:=by
 refine⟨Tr.blank z n n,e,?_,?_,fun i=>?_⟩
 . rw [h.get_new _ a,if_pos rfl,Xw]
 . rw [Xw];exact Tr.sized_blank _ _ _ (Xc _)
 . rw [Tr.get_blank _ _ _ (Xc _),Xu]
def fu(E:Env)(e:TypeId)(a k:Nat)(b:List Value):Prop:=(∃i,E.ty e=some i/\i.bytes=a/\i.size=k)/\E.zero e=some b/\b.length=k
theorem lZ{d k:Nat}{c:List Value}{kd kd':IntKind}{n:Int}(o:E.und t=some (.slice e))(u:fu E e d k c)(h0:0<=n)(v:n.toNat*(d+1)<=70368744177664):
 rF h (fun h=>dD (kK E h t (.int kd n) (.int kd' n))) (fun b=>.slice (some ⟨b,0,none⟩) n.toNat n.toNat) (.row (bH c n.toNat) 1):=by
 obtain⟨⟨i,p,rfl,rfl⟩,q,w⟩:=u;obtain⟨m,rfl⟩:=Int.eq_ofNat_of_zero_le h0;have hle:Xb (m*(i.bytes+1)) 70368744177664=true:=Xa v;have r:Xd c.length i.size=true:=by simp_all
 have f:natV (.int kd (m:Int))=some m:=rfl;have g:natV (.int kd' (m:Int))=some m:=rfl;have s:(Xb m m&&Xb (m*(i.bytes+1)) 70368744177664)=true:=by simp_all
 by_cases y: ∃z,c=[z]
 . obtain⟨z,rfl⟩:=y;refine⟨.cells (Tr.blank z m m) m e 1,fun x=>?_,fun j=>?_⟩
   . simp only [kK,o,p,q,f,g,s,r,cond_true,dD];rfl
   . have:bH [z] (m:Int).toNat=Xh m z:=by
      have: ∀n,bH [z] n=Xh n z:=by intro n;induction n with
       |zero=>rfl|succ n A=>simp [bH,A,List.replicate_succ]
      exact this m
     rw [this];exact row_blank j z m e
 . refine⟨.cells (Tr.ofList (bH c m)) (m*i.size) e 1,fun x=>?_,fun j=>?_⟩
   . simp only [kK,o,p,q,f,g,s,r,cond_true];cases c with
     |nil=>rfl| cons a l=>
       cases l with
       |nil=>grind|cons b l=>rfl
   . have:=qN j (bH c m) e 1;rw [B6,w]at this;show Row _ _ (bH c m) 1;omega
theorem St.store(S:St M h0 h L G){E:Env}{t:TypeId}{i b off n md:Nat}{s:Option Nat}{l:List Value}{v:Value}(c:L[i]? =some (b,.row l md))(g:E.sz t=some n)(j: ∀x,v≠ .chan x)(d:(ae v).length=n)
 (hf:(ae v).all mM=true) (e:off+n<=l.length) (a:md≠0): ∃h',jV E h t (.pointer (some ⟨b,off,s⟩)) v=some h'/\St M h0 h' (L.set i (b,.row (lay l off (ae v)) md)) G/\Mo (· =b) h h':=by
 subst d;obtain⟨x,k,f⟩:=(S.row (zO c)).store S.ok a (vs:=ae v) e hf;refine⟨h.put b x,?_,S.put c f,(Mo.refl (M:=(· =b)) S.ok).put (.inr rfl) x⟩;grind[jV,Xd,ae,Xl]
section
variable{E:Env}{cx:Cx}{o:Oper}{l:Loc}{K:Ex->Loc->Hp->Prop}
theorem aC{x:Option Hp}{P:Hp->Prop}(a: ∃h',x=some h'/\P h')(b: ∀h',P h'->K .normal (l.put o.dst (.tuple #[])) h'):gH E cx o l K (fU x):=by obtain⟨h',rfl,c⟩:=a;exact b h' c
theorem dE{x:Option (Hp×Value)}{P:Hp->Value->Prop}(a: ∃h' v,x=some (h',v)/\P h' v)(b: ∀h' v,P h' v->K .normal (l.put o.dst v) h'):gH E cx o l K (dD x):=by obtain⟨h',v,rfl,c⟩:=a;exact b h' v c
theorem cM{Q:gp}{k:List Fr}{b:Hp->List (Nat×Tch)}{x:Option Hp}{P:Hp->Prop}(c: ∃h',x=some h'/\P h')
 (d: ∀h',P h'->Run E (lim E) cx Q (.opsD a q ps os (i+1) (b h')::k) .normal (l.put o.dst (.tuple #[])) h'):DN E cx Q a q ps o os i k l b (fU x):=by
 obtain⟨h',rfl,e⟩:=c;exact d h' e
theorem mj{Q:gp}{k:List Fr}{b:Hp->List (Nat×Tch)}{x:Option (Hp×Value)}{P:Hp->Value->Prop}(c: ∃h' v,x=some (h',v)/\P h' v)
 (d: ∀h' v,P h' v->Run E (lim E) cx Q (.opsD a q ps os (i+1) (b h')::k) .normal (l.put o.dst v) h'):DN E cx Q a q ps o os i k l b (dD x):=by
 obtain⟨h',v,rfl,e⟩:=c;exact d h' v e
end
theorem rS{L:List (Nat×Ob)}{G:List GL}{p c:GL}(i:(keys L G).Nodup)(d:G[j]? =some p)(e:eo c=some b)(a:b∉keys L G):(keys L (G.set j c)).Nodup:=by
 obtain⟨hlt,f⟩:=List.getElem?_eq_some_iff.1 d;have k:G=G.take j++p::G.drop (j+1):=by rw [<-f,List.getElem_cons_drop hlt,List.take_append_drop]
 have g:G.set j c=G.take j++c::G.drop (j+1):=List.set_eq_take_append_cons_drop.trans (if_pos hlt);unfold keys at*
 rw [g,List.filterMap_append,List.filterMap_cons_some e,<-List.append_assoc];refine List.perm_middle.nodup_iff.2 (List.nodup_cons.2 ⟨fun l=>a ?_,?_⟩)
 . grind
 grind
theorem St.grow (S:St M h0 h L G)  {tx:TypeId} {u k m:Nat} {zs new:List Value} {x:Value} (J:G[j]? =some (v,k,vs)) (hu:E.und t=some (.slice e)) (he:fu E e u k zs) (K:0<u)
 (O:ez E tx=some false) (ad:aK h k x=some (m,new)) (hm:m*k=new.length) (z:0<k) (hf:new.all mM=true) (P:(vs.length+new.length)*(u+1)<=70368744177664) {ts:List TypeId}:
 ∃h' v',dK E h (t::tx::ts) v x=some (h',v')/\St M h0 h' L (G.set j (v',k,vs++new)):=by
 obtain⟨⟨i,hi,rfl,rfl⟩,hz,hl⟩:=he;have hlt:=(List.getElem?_eq_some_iff.1 J).1;obtain⟨hg,A⟩:=S.gown _ (zO J);have af : ∀ a d,v=.slice a d d->d*i.size=vs.length->(a=none/\d=0\/ ∃b,a=some ⟨b,0,some i.size⟩/\Row h b vs 1)->
  ∃h' v',gX E h e i a d d m new=some (h',v')/\St M h0 h' L (G.set j (v',i.size,vs++new)):=by
  intro a d hv B ha;by_cases f:m=0
  . subst f;have:new=[]:=(by grind);subst this;refine⟨h,v,?_,?_⟩
    . unfold gX;rw [Xa (by omega:d+0<=d)];grind
    . rw [List.append_nil];have:G.set j (v,i.size,vs)=G:=(by refine List.ext_getElem? fun n=>?_;grind);grind
  . have ai : Xb (d+m) d=false:=by
     cases O:Xb (d+m) d with
     |false=>rfl|true=>exact absurd (Nat.le_of_ble_eq_true O) (by omega)
    have C:d+m<=vs.length+new.length:=(by rw [<-B,<-hm];have f:=Xv d z;have Q:=Xv m z;omega);have N:(Xb ((d+m)*(i.bytes+1)) 70368744177664&&Xt 0 i.bytes)=true:=(by rw [Xa (Xm (Nat.mul_le_mul_right _ C) P)];simp_all);have ak:Xd zs.length i.size=true:=(by simp_all);have r:gX E h e i a d d m new=pV h e i.size a d m new:=(by unfold gX;grind);rw [r];rcases ha with⟨rfl,rfl⟩|⟨b,rfl,D⟩
    . have R:vs=[]:=(by grind);subst R;refine⟨h.new (.cells (Tr.ofList new) new.length e 1),.slice (some ⟨h.n,0,some i.size⟩) m m,rfl,?_⟩;have T:=S.call (Gr.new S.ok (.cells (Tr.ofList new) new.length e 1));have w:h.n∉keys L G:=fun z=>(by have:=S.key_lt z;omega);refine⟨T.fr,T.own,fun p o=>?_,rS S.apart J (b:=h.n) rfl w⟩;rcases n8 o with rfl|⟨j',_,o⟩
      . exact⟨.inr ⟨h.n,m,rfl,hm,qN S.ok new e 1⟩,fun b K=>by cases K;exact .inl S.fr.n⟩
      . exact T.gown p (zO o)
    . obtain ⟨F,el,s,H,al⟩:=D;have U:kZ F vs.length 0 (d*i.size) new=some (F.pushAll vs.length new,vs.length+new.length):=(by grind[kZ,Xl]);refine⟨(h.put b .dead).new (.cells (F.pushAll vs.length new) (vs.length+new.length) e 1),.slice (some ⟨h.n,0,some i.size⟩) (d+m) (d+m),?_,?_⟩
      . unfold pV;simp only [s,U,hf,Xl];rfl
      . have I:eo (v,i.size,vs)=some b:=(by rw [hv];rfl);have ax:=iu S.ok s;have y:=(S.fr.put (A b I) .dead);have V: ∀c∈L.map Prod.fst,c≠b:=fun c W e=>(by have f:=S.apart;grind[keys,List.nodup_append,zO]);have l: ∀c,c<h.n->c≠b->((h.put b .dead).new (.cells (F.pushAll vs.length new) (vs.length+new.length) e 1)).get c=h.get c:=fun c W X=>(by rw [Hp.get_new _ _ y.ok,if_neg (by show c≠h.n;omega)];exact dA (Ne.symm X));have w:h.n∉keys L G:=fun z=>(by have:=S.key_lt z;omega);refine⟨y.new _,fun p o=>?_,fun p o=>?_,rS S.apart J (b:=h.n) rfl w⟩
        . have f:=S.own p o;exact⟨f.1,f.2.of_get (l _ (f.2.lt S.ok) (V _ (Xx o)))⟩
        . rcases n8 o with rfl|⟨j',Y,o⟩
          . refine⟨.inr ⟨h.n,d+m,rfl,?_,?_⟩,fun b K=>by cases K;exact .inl S.fr.n⟩
            . grind
            . refine⟨F.pushAll vs.length new,e,?_,?_,fun n=>?_⟩
              . rw [Hp.get_new _ _ y.ok];rw [if_pos (show h.n=(h.put b .dead).n from rfl),Xp]
              . rw [Xp];exact Tr.sized_pushAll _ H
              grind[Tr.get_pushAll]
          . have f:=S.gown p (zO o);refine⟨f.1.of_get fun c W=>l c (f.1.lt S.ok W) fun e=>Y ?_,f.2⟩;subst e
            -- two lists with ay Z
            have Q:=S.apart;unfold keys at Q;have h3:=(List.nodup_append.1 Q).2.1;have aL: ∀(G:List GL) (a c:Nat) (p q:GL),(G.filterMap eo).Nodup->G[a]? =some p->G[c]? =some q-> ∀x,eo p=some x->eo q=some x->a=c:=by
             intro G
             induction G with
             |nil=>grind| cons g G ih=>grind
            grind
 unfold dK;simp only [O];unfold lH;simp only [hu,hi];rcases hg with⟨k1,k2⟩|⟨b,n,k1,k2,k3⟩
 . grind
 simp_all
end
end Go.Ab

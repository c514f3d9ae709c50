/- A deterministic evaluator of the model's code, and that the model follows it (part 3). -/
import Derived.Test.YtdpmdpbhjgaocaaGreatDoorAbB
import Derived.Calls
import Derived.RowKit3
open Nat renaming eq_of_beq_eq_true->xW,beq->yd,lt_or_ge->yg,le_refl->yh,add_zero->yi,lor->yn,zero_add->yp,blt->yq
open List renaming getElem?_eq_getElem->xX,mem_cons_of_mem->xZ,mem_cons_self->ya,length_cons->yf,getElem?_eq_none->yl,replicate->ym,range'->yr
open Bool renaming and_eq_true->xY,or_eq_true->yj
open Array renaming getD_eq_getD_getElem?->yb,getElem?_eq_none->yc,replicate->ye,getElem?_toList->yk,toList_append->yo
set_option maxHeartbeats 400000
set_option linter.defProp false
set_option linter.unusedVariables false
set_option linter.unusedSimpArgs false
namespace Go.Ab

structure FC where
 fn:FuncId
 kind:CallKind
 round:Option Nat
def FC.mk'(F:FC)(tmps:Array Value)(dfs:List Deferred)(todo:List Item):Frame:=
 {fn:=F.fn,tmps,todo,defers:=dfs,mode:=.run,kind:=F.kind,roundOf:=F.round}

section steps
variable{P:Program}{F:FC}{tmps:Array Value}{dfs:List Deferred}{k:List Item}{cs:List Frame}{w:World}

theorem st_skip:step P (lone (F.mk' tmps dfs (.code .skip::k)) cs w)=.next (lone (F.mk' tmps dfs k) cs w):=step_lone_go (by simp [stepG,stepG.exec,FC.mk'])
theorem st_label{l:Nat}:step P (lone (F.mk' tmps dfs (.code (.label l)::k)) cs w)=.next (lone (F.mk' tmps dfs k) cs w):=step_lone_go (by simp [stepG,stepG.exec,FC.mk'])
theorem xy{id:Nat}:step P (lone (F.mk' tmps dfs (.inBlock id::k)) cs w)=.next (lone (F.mk' tmps dfs k) cs w):=step_lone_go (by simp [stepG,stepG.exec,FC.mk'])
theorem xw{b:Code}:step P (lone (F.mk' tmps dfs (.inScope b::k)) cs w)=.next (lone (F.mk' tmps dfs k) cs w):=step_lone_go (by simp [stepG,stepG.exec,FC.mk'])
theorem st_seq{a b:Code}:step P (lone (F.mk' tmps dfs (.code (.seq a b)::k)) cs w)=.next (lone (F.mk' tmps dfs (.code a:: .code b::k)) cs w):=step_lone_go (by simp [stepG,stepG.exec,FC.mk'])
theorem st_block{id:Nat}{b:Code}:step P (lone (F.mk' tmps dfs (.code (.block id b)::k)) cs w)=.next (lone (F.mk' tmps dfs (.code b:: .inBlock id::k)) cs w):=step_lone_go (by simp [stepG,stepG.exec,FC.mk'])
theorem st_loop{b:Code}:step P (lone (F.mk' tmps dfs (.code (.loop b)::k)) cs w)=.next (lone (F.mk' tmps dfs (.code b:: .inLoop b::k)) cs w):=step_lone_go (by simp [stepG,stepG.exec,FC.mk'])
theorem st_inLoop{b:Code}:step P (lone (F.mk' tmps dfs (.inLoop b::k)) cs w)=.next (lone (F.mk' tmps dfs (.code b:: .inLoop b::k)) cs w):=step_lone_go (by simp [stepG,stepG.exec,FC.mk'])
theorem st_scope{b:Code}:step P (lone (F.mk' tmps dfs (.code (.scope b)::k)) cs w)=.next (lone (F.mk' tmps dfs (.code b:: .inScope b::k)) cs w):=step_lone_go (by simp [stepG,stepG.exec,FC.mk'])
theorem st_exit{id:Nat}{k':List Item}(h:exitTo id k=some k'):step P (lone (F.mk' tmps dfs (.code (.exit id)::k)) cs w)=.next (lone (F.mk' tmps dfs k') cs w):=step_lone_go (by simp [stepG,stepG.exec,FC.mk',h])
theorem st_region{id:Nat}{ops:Array Oper}:step P (lone (F.mk' tmps dfs (.code (.region id ops false)::k)) cs w)=.next (lone (F.mk' tmps dfs (.inRegion ops (List.range ops.size)::k)) cs w):=step_lone_go (by simp [stepG,stepG.exec,FC.mk'])
theorem rZ{id:Nat}{ops:Array Oper}:step P (lone (F.mk' tmps dfs (.code (.region id ops true)::k)) cs w)=
 .next (lone (F.mk' tmps dfs (.inRegion ops (Region.schedule (P.follows .mixedOrders) ops (w.tape w.drawn (.order F.fn id)))::k)) cs {w with drawn:=w.drawn+1}):=
 step_lone_go (by simp [stepG,stepG.exec,FC.mk',choose,Sem.run,Question.forced,Question.cut])
theorem oz{ops:Array Oper}:step P (lone (F.mk' tmps dfs (.inRegion ops []::k)) cs w)=.next (lone (F.mk' tmps dfs k) cs w):=step_lone_go (by simp [stepG,stepG.exec,FC.mk'])

def cS(tmps:Array Value):Operand->Value
 | .tmp t=>tmps.getD t undef
 | .const v=>v
 | .global g=>.pointer (some ⟨g,0,none⟩)
 | .func f=>.func (.func f) #[] #[]
theorem rQ(todo:List Item):(F.mk' tmps dfs todo).eval=cS tmps:=by funext x;cases x<;>rfl
theorem st_cond{c:Operand}{a b:Code}{t:Bool}(h:cS tmps c=.bool t):step P (lone (F.mk' tmps dfs (.code (.cond c a b)::k)) cs w)=.next (lone (F.mk' tmps dfs (.code (if t then a else b)::k)) cs w):=
 step_lone_go (by
  have:=congrFun (rQ (F:=F) (tmps:=tmps) (dfs:=dfs) (.code (.cond c a b)::k)) c
  simp only [FC.mk']at this
  simp [stepG,stepG.exec,FC.mk',this,h])

def eg(tmps:Array Value)(d:Option Tmp)(v:Value):Array Value:=match d with
 |some d=>tmps.setIfInBounds d v
 |none=>tmps
theorem iS{ops:Array Oper}{i:Nat}{rest:List Nat}(v:Value):(F.mk' tmps dfs (.inRegion ops (i::rest)::k)).finish v=F.mk' (eg tmps ((ops[i]?).bind (·.dst)) v) dfs (.inRegion ops rest::k):=by
 cases h:(ops[i]?).bind (·.dst)<;>simp [Frame.finish,FC.mk',eg,h]
theorem rx{ops:Array Oper}{i:Nat}{rest:List Nat}(h:((ops[i]?).map (Region.wanted · (yielded ops tmps))).getD false=false):
 step P (lone (F.mk' tmps dfs (.inRegion ops (i::rest)::k)) cs w)=.next (lone (F.mk' (eg tmps ((ops[i]?).bind (·.dst)) undef) dfs (.inRegion ops rest::k)) cs w):=by
 rw [<-iS]
 exact step_lone_go (by
  have h':=h
  simp only [FC.mk']at*
  simp [stepG,stepG.exec,h'])
theorem kV{ops:Array Oper}{i:Nat}{rest:List Nat}{o:Oper}(ho:ops[i]? =some o)(hw:Region.wanted o (yielded ops tmps)=true)(hd:F.round=none\/ ∀c,o.op≠ .defer c):
 stepG P true {frame:=F.mk' tmps dfs (.inRegion ops (i::rest)::k),callers:=cs,status:=.running,dying:=none} w=
  stepG.apply P true (F.mk' tmps dfs (.inRegion ops (i::rest)::k)) cs none (execOp (cS tmps) o) w:=by
 have he:=rQ (F:=F) (tmps:=tmps) (dfs:=dfs) (.inRegion ops (i::rest)::k)
 simp only [FC.mk']at he
 rcases hd with hd|hd
 . rw [hd]at he
   simp [stepG,stepG.exec,stepG.oper,Frame.oper?,FC.mk',ho,hw,hd]
   rw [he]
 . simp only [stepG,stepG.exec,stepG.oper,Frame.oper?,FC.mk',ho,hw,Option.map_some,Option.getD_some,if_true,he]
   cases F.round with
   |none=>rfl
   | some l=>
     obtain⟨dst,op,ty,pos,af,g⟩:=o
     cases op<;>first|rfl|exact absurd rfl (hd _)

section op
variable{ops:Array Oper}{i:Nat}{rest:List Nat}{o:Oper}{w':World}
theorem ua(ho:ops[i]? =some o)(hw:Region.wanted o (yielded ops tmps)=true)(hd:F.round=none\/ ∀c,o.op≠ .defer c){v:Value}(hr:(execOp (cS tmps) o).run P w=.ok (.value v) w'):
 step P (lone (F.mk' tmps dfs (.inRegion ops (i::rest)::k)) cs w)=.next (lone (F.mk' (eg tmps o.dst v) dfs (.inRegion ops rest::k)) cs w'):=by
 have:F.mk' (eg tmps o.dst v) dfs (.inRegion ops rest::k)=(F.mk' tmps dfs (.inRegion ops (i::rest)::k)).finish v:=by rw [iS,ho];rfl
 rw [this]
 exact step_lone_go (by rw [kV ho hw hd];simp [stepG.apply,hr])
theorem st_opskip(ho:ops[i]? =some o)(hw:Region.wanted o (yielded ops tmps)=true)(hd:F.round=none\/ ∀c,o.op≠ .defer c)(hr:(execOp (cS tmps) o).run P w=.ok .skip w'):
 step P (lone (F.mk' tmps dfs (.inRegion ops (i::rest)::k)) cs w)=.next (lone (F.mk' (eg tmps o.dst undef) dfs (.inRegion ops rest::k)) cs w'):=by
 have:F.mk' (eg tmps o.dst undef) dfs (.inRegion ops rest::k)=(F.mk' tmps dfs (.inRegion ops (i::rest)::k)).finish undef:=by rw [iS,ho];rfl
 rw [this]
 exact step_lone_go (by rw [kV ho hw hd];simp [stepG.apply,hr])
theorem st_enter(ho:ops[i]? =some o)(hw:Region.wanted o (yielded ops tmps)=true)(hd:F.round=none\/ ∀c,o.op≠ .defer c){f:FuncId}{args:Array Value}(hr:(execOp (cS tmps) o).run P w=.ok (.enter f args) w'):
 step P (lone (F.mk' tmps dfs (.inRegion ops (i::rest)::k)) cs w)=.next (lone (Frame.enter P f args .normal) (F.mk' tmps dfs (.inRegion ops (i::rest)::k)::cs) w'):=
 step_lone_go (by rw [kV ho hw hd];simp [stepG.apply,hr,FC.mk'])
theorem st_round(ho:ops[i]? =some o)(hw:Region.wanted o (yielded ops tmps)=true)(hd:F.round=none\/ ∀c,o.op≠ .defer c){l:Nat}{f:FuncId}{tm:Array Value}{a b:Code}(hr:(execOp (cS tmps) o).run P w=.ok (.round l f tm a b) w'):
 step P (lone (F.mk' tmps dfs (.inRegion ops (i::rest)::k)) cs w)=.next (lone (Frame.round l f tm a b .normal) (F.mk' tmps dfs (.inRegion ops (i::rest)::k)::cs) w'):=
 step_lone_go (by rw [kV ho hw hd];simp [stepG.apply,hr,FC.mk'])
theorem st_defer(ho:ops[i]? =some o)(hw:Region.wanted o (yielded ops tmps)=true)(hd:F.round=none){d:Deferred}(hr:(execOp (cS tmps) o).run P w=.ok (.defer d) w'):
 step P (lone (F.mk' tmps dfs (.inRegion ops (i::rest)::k)) cs w)=.next (lone (F.mk' (eg tmps o.dst undef) (d::dfs) (.inRegion ops rest::k)) cs w'):=by
 have:F.mk' (eg tmps o.dst undef) (d::dfs) (.inRegion ops rest::k)=(F.mk' tmps (d::dfs) (.inRegion ops (i::rest)::k)).finish undef:=by rw [iS,ho];rfl
 rw [this]
 exact step_lone_go (by rw [kV ho hw (.inl hd)];simp [stepG.apply,hr,FC.mk'])
theorem st_panic(ho:ops[i]? =some o)(hw:Region.wanted o (yielded ops tmps)=true)(hd:F.round=none\/ ∀c,o.op≠ .defer c){v:Value}(hr:(execOp (cS tmps) o).run P w=.halt (.panic v) w'):
 step P (lone (F.mk' tmps dfs (.inRegion ops (i::rest)::k)) cs w)=.next (lone {F.mk' tmps dfs (.inRegion ops (i::rest)::k)with mode:=.panicking [{v,recovered:=false}]} cs w'):=
 step_lone_go (by rw [kV ho hw hd];simp [stepG.apply,hr,Frame.raise,FC.mk'])
theorem qU(ho:ops[i]? =some o)(hw:Region.wanted o (yielded ops tmps)=true)(hd:F.round=none)(hr:(execOp (cS tmps) o).run P w=.ok .recover w')
 (ht:tryRecover (F.mk' tmps dfs (.inRegion ops (i::rest)::k)) cs=none):
 step P (lone (F.mk' tmps dfs (.inRegion ops (i::rest)::k)) cs w)=.next (lone (F.mk' (eg tmps o.dst .nilIface) dfs (.inRegion ops rest::k)) cs w'):=by
 have:F.mk' (eg tmps o.dst .nilIface) dfs (.inRegion ops rest::k)=(F.mk' tmps dfs (.inRegion ops (i::rest)::k)).finish .nilIface:=by rw [iS,ho];rfl
 rw [this]
 have hro:(F.mk' tmps dfs (.inRegion ops (i::rest)::k)).roundOf=none:=hd
 exact step_lone_go (by rw [kV ho hw (.inl hd)];simp [stepG.apply,hr,hro,ht])
theorem qx(ho:ops[i]? =some o)(hw:Region.wanted o (yielded ops tmps)=true)(hd:F.round=none)(hr:(execOp (cS tmps) o).run P w=.ok .recover w'){v:Value}{cs':List Frame}
 (ht:tryRecover (F.mk' tmps dfs (.inRegion ops (i::rest)::k)) cs=some (v,cs')):
 step P (lone (F.mk' tmps dfs (.inRegion ops (i::rest)::k)) cs w)=.next (lone (F.mk' (eg tmps o.dst v) dfs (.inRegion ops rest::k)) cs' w'):=by
 have:F.mk' (eg tmps o.dst v) dfs (.inRegion ops rest::k)=(F.mk' tmps dfs (.inRegion ops (i::rest)::k)).finish v:=by rw [iS,ho];rfl
 rw [this]
 have hro:(F.mk' tmps dfs (.inRegion ops (i::rest)::k)).roundOf=none:=hd
 exact step_lone_go (by rw [kV ho hw (.inl hd)];simp [stepG.apply,hr,hro,ht])
end op

structure LeaveP(P:Program)(fr:Frame)(kind:CallKind)(v:Value):Prop where
 mode:fr.mode=.panicking [{v,recovered:=false}]
 defers:fr.defers=[]
 kind:fr.kind=kind
 fn: ∃fn,P.funcs[fr.fn]? =some fn
theorem tS{fr c:Frame}{v:Value}(h:mT P fr w .normal v):step P (lone fr (c::cs) w)=.next (lone (c.finish v) cs w):=by
 obtain⟨fn,hf,hr⟩:=h.res
 exact step_lone_go (by simp [stepG,unwind,doReturn,h.mode,h.defers,h.kind,hf,hr])
theorem kk{fr c:Frame}{kind:CallKind}{v:Value}(h:LeaveP P fr kind v):step P (lone fr (c::cs) w)=.next (lone (c.raise [{v,recovered:=false}]) cs w):=by
 obtain⟨fn,hf⟩:=h.fn
 exact step_lone_go (by simp [stepG,unwind,Frame.catches,h.mode,h.defers,hf])
end steps
end Go.Ab

namespace Go.Ab
section
variable{P:Program}{F:FC}{tmps:Array Value}{dfs:List Deferred}{k:List Item}{cs:List Frame}{w:World}

def setW(w:World)(c:Nat)(o:Obj):World:={w with heap:=w.heap.setIfInBounds c o}
def Plain:Obj->Prop
 | .cells .. =>False
 |_=>True
theorem lu{c:Nat}{o q:Obj}(hw:w.heap[c]? =some q)(hq:Plain q):(setObj c o).run P w=.ok () (setW w c o):=by
 cases q<;>first|exact hq.elim|simp [setObj,Sem.run,hw,setW]
theorem rt{c:Nat}{q:Obj}(hw:w.heap[c]? =some q)(hq:Plain q):(getObj c).run P w=.ok q w:=by
 cases q<;>first|exact hq.elim|simp [getObj,Sem.run,hw]
theorem jq{c:Nat}{r:Loop}(hw:w.heap[c]? =some (.loop r)):(Instr.getLoop c).run P w=.ok r w:=by
 unfold Instr.getLoop
 simp only [Sem.run_bind,rt hw trivial,Result.andThen_ok,Sem.run_pure]
theorem rV{c:Nat}{r:Loop}(hw:w.heap[c]? =some (.loop r))(hs:r.state=.ready):
 (Instr.beginRound c).run P w=.ok () (setW w c (.loop {r with state:=.busy})):=by
 unfold Instr.beginRound
 simp only [Sem.run_bind,jq hw,Result.andThen_ok,lu hw trivial,hs,Sem.run_pure]
theorem uZ{c:Nat}{r:Loop}(hw:w.heap[c]? =some (.loop r))(jump:Option Code):
 (Instr.endRound c jump).run P w=.ok (.bool jump.isNone) (setW w c (.loop {r with state:=if jump.isNone then .ready else .done,pending:=jump})):=by
 unfold Instr.endRound
 simp only [Sem.run_bind,jq hw,Result.andThen_ok,lu hw trivial,Sem.run_pure]
theorem vV{c:Nat}{r:Loop}(hw:w.heap[c]? =some (.loop r))(hs:r.state≠ .busy):
 (Instr.endLoop c).run P w=.ok r.pending (setW w c (.loop {r with state:=.exhausted})):=by
 unfold Instr.endLoop
 have:(r.state==LoopState.busy)=false:=by cases h:r.state<;>simp_all<;>rfl
 simp only [Sem.run_bind,jq hw,Result.andThen_ok,this,Bool.false_eq_true,if_false,lu hw trivial,Sem.run_pure]
theorem pY{c:Nat}{ds:List Deferred}(hw:w.heap[c]? =some (.deferred (some ds))):
 (Instr.takeDeferred c).run P w=.ok ds (setW w c (.deferred none)):=by
 unfold Instr.takeDeferred
 simp only [Sem.run_bind,rt hw trivial,Result.andThen_ok,lu hw trivial,Sem.run_pure]

theorem tC{c:Nat}(hF:F.round=some c){r:Loop}(hw:w.heap[c]? =some (.loop r))(hs:r.state=.ready):
 step P (lone (F.mk' tmps dfs (.beginRound::k)) cs w)=.next (lone (F.mk' tmps dfs k) cs (setW w c (.loop {r with state:=.busy}))):=by
 refine step_lone_go ?_
 have h1:=rV (P:=P) hw hs
 simp [stepG,stepG.exec,stepG.apply,FC.mk',hF,h1,Frame.finish]
def uQ(todo:List Item)(jump:Option Code):Prop:=
 (todo=[]/\jump=none)\/(∃k0,todo=.code .ret::k0/\jump=some .ret)\/(∃id k0,todo=.code (.exit id)::k0/\exitTo id k0=none/\jump=some (.exit id))
theorem tD{c:Nat}(hF:F.round=some c)(hk:F.kind=.normal){r:Loop}(hw:w.heap[c]? =some (.loop r)){todo:List Item}{jump:Option Code}(ht:uQ todo jump){c0:Frame}:
 step P (lone (F.mk' tmps dfs todo) (c0::cs) w)=
  .next (lone (c0.finish (.bool jump.isNone)) cs (setW w c (.loop {r with state:=if jump.isNone then .ready else .done,pending:=jump}))):=by
 refine step_lone_go ?_
 have h1:=uZ (P:=P) hw jump
 rcases ht with⟨rfl,rfl⟩|⟨k0,rfl,rfl⟩|⟨id,k0,rfl,he,rfl⟩
 . simp [stepG,stepG.exec,FC.mk',hF,h1,doReturn,hk]
 . simp [stepG,stepG.exec,FC.mk',hF,h1,doReturn,hk]
 . simp [stepG,stepG.exec,FC.mk',hF,h1,doReturn,hk,he]
theorem xl(hF:F.round=none){todo:List Item}(ht:todo=[]\/ ∃k0,todo=.code .ret::k0):
 step P (lone (F.mk' tmps dfs todo) cs w)=.next (lone {F.mk' tmps dfs todo with mode:=.returning} cs w):=by
 refine step_lone_go ?_
 rcases ht with rfl|⟨k0,rfl⟩
 . simp [stepG,stepG.exec,FC.mk',hF]
 . simp [stepG,stepG.exec,FC.mk',hF]
theorem wA{c:Nat}{r:Loop}(hw:w.heap[c]? =some (.loop r))(hs:r.state≠ .busy):
 step P (lone (F.mk' tmps dfs (.endRangeFunc c::k)) cs w)=.next (lone (F.mk' tmps dfs ((r.pending.map Item.code).toList++k)) cs (setW w c (.loop {r with state:=.exhausted}))):=by
 refine step_lone_go ?_
 have h1:=vV (P:=P) hw hs
 simp [stepG,stepG.exec,FC.mk',h1]

def jy(w:World)(o:Obj):World:={w with heap:=w.heap.push o}
theorem rC{o:Obj}:(newObj o).run P w=.ok w.heap.size (jy w o):=by simp [newObj,Sem.run,jy]
theorem uM{params:Array Tmp}{assign body:Code}:
 (Instr.enterLoop F.fn tmps params assign body none).run P w=.ok (w.heap.size+1,[{target:=.collected w.heap.size,args:=#[]}])
  (jy (jy w (.deferred (some []))) (.loop {state:=.ready,pending:=none,fn:=F.fn,tmps,params,assign,body,defers:=w.heap.size})):=by
 unfold Instr.enterLoop
 simp only [Sem.run_bind,rC,Result.andThen_ok,Sem.run_pure]
 simp [jy]
theorem rh{c:Nat}{r:Loop}(hw:w.heap[c]? =some (.loop r)){params:Array Tmp}{assign body:Code}:
 (Instr.enterLoop F.fn tmps params assign body (some c)).run P w=.ok (w.heap.size,[])
  (jy w (.loop {state:=.ready,pending:=none,fn:=F.fn,tmps,params,assign,body,defers:=r.defers})):=by
 unfold Instr.enterLoop
 simp only [Sem.run_bind,rC,Result.andThen_ok,Sem.run_pure,jq hw]
theorem st_range{f:Operand}{params:Array Tmp}{assign body:Code}{g:FuncId}{x y:Array Value}(hf:cS tmps f=.func (.func g) x y)
 (hg: ∀args w,(callFunc g args).run P w=.ok (.enter g args) w) {c:Nat} {mark:List Deferred} {w2:World}
 (h0:(Instr.enterLoop F.fn tmps params assign body F.round).run P w=.ok (c,mark) w2):
 step P (lone (F.mk' tmps dfs (.code (.rangeFunc f params assign body)::k)) cs w)=
  .next (lone (Frame.enter P g (x++#[.func (.yield c) #[] #[]]++y) .normal) (F.mk' tmps (mark++dfs) (.inRangeFunc c::k)::cs) w2):=by
 refine step_lone_go ?_
 have he:=rQ (F:=F) (tmps:=tmps) (dfs:=mark++dfs) (.inRangeFunc c::k)
 simp only [FC.mk']at he
 have hr: ∀w',(do let d<-resolve (cS tmps) {callee:=.value f,args:=#[.const (.func (.yield c) #[] #[])],argTypes:=#[]} 0;invoke d.target d.args).run P w'=
  .ok (.enter g (x++#[.func (.yield c) #[] #[]]++y)) w':=by
  intro w'
  simp [resolve,hf,Deferred.ofValue,invoke,hg,show∀v,cS tmps (.const v)=v from fun _=>rfl]
 simp only [stepG,stepG.exec,FC.mk']
 simp [h0]
 rw [he]
 simp [stepG.apply,hr]
end
end Go.Ab

namespace Go.Ab

def mr(mu:Mu):Option (Value×Bool)->Option (Value×Bool)->Prop
 |none,none=>True
 |some (v,b),some (v',b')=>b=b'/\ao mu v v'
 |_,_=>False
theorem mr.mono{mu mu':Mu}(h:Le mu mu'){a b:Option (Value×Bool)}(k:mr mu a b):mr mu' a b:=by
 cases a<;>cases b<;>simp only [mr]at*
 exact⟨k.1,k.2.mono h⟩
theorem jR.mono{mu mu':Mu}(h:Le mu mu'){a b:Deferred}(k:jR mu a b):jR mu' a b:=by
 unfold jR at*
 split
 . rename_i f cap e;rw [e]at k;obtain⟨c,k1,k2,k3⟩:=k;exact⟨c,k1,VL.mono h k2,VL.mono h k3⟩
 . rename_i b e;rw [e]at k;obtain⟨c,k1,k2⟩:=k;exact⟨c,k1,k2.mono h⟩
 . rename_i h1 h2;split at k<;>first|(rename_i e;exact absurd e (by first|exact h1 _ _|exact h2 _))|exact k
abbrev DL(mu:Mu):=LR (jR mu)

def aJ:Option (Value×Bool)->List Frame->List Frame
 |none,cs=>cs
 |some (v,b),c::r=>{c with mode:=.panicking [{v,recovered:=b}]}::r
 |some _,[]=>[]
def KOk(kind:CallKind)(cs0:List Frame):Option (Value×Bool)->Prop
 |none=>kind=.normal\/(kind=.deferred/\ ∃c r,cs0=c::r/\c.mode=.returning)
 |some _=>kind=.deferred/\cs0≠ []
def RdRel(mu:Mu):Option Nat->Option Nat->Prop
 |none,none=>True
 |some b,some c=>cV mu b c
 |_,_=>False
theorem RdRel.mono{mu mu':Mu}(h:Le mu mu'){a b:Option Nat}(k:RdRel mu a b):RdRel mu' a b:=by
 cases a<;>cases b<;>simp only [RdRel]at*
 exact k.mono h

theorem ev_rel{mu:Mu}{l:Loc}{n:Nat}{tmps:Array Value}(hr:gS mu l.regs n tmps)(x:Operand)
 (hglob: ∀g,g<16->dC mu ⟨g,0,none⟩ ⟨g,0,none⟩):ao mu (l.ev x) (cS tmps x):=by
 cases x with
 | tmp t=>
   simp only [Loc.ev,cS]
   cases hv:l.regs.get t with
   | none=>
     have:n<=t:=by
      rcases yg t n with h1|h1
      . obtain⟨v,h2⟩:=Tr.get_some hr.sized h1;rw [h2]at hv;cases hv
      . exact h1
     rw [yb,yc (by rw [hr.size];exact this)]
     exact .tuple rfl (by intro i v v' hv;simp at hv)
   | some v=>
     obtain⟨v',h1,h2⟩:=hr.get t v hv
     rw [yb,h1];exact h2
 | const v=>
   simp only [Loc.ev,cS]
   cases hc:bZ v with
   |true=>simp only [cond_true];exact ao.const mu hc
   |false=>simp only [cond_false];exact .poison v
 | global g=>
   simp only [Loc.ev,cS]
   cases hg:yq g 16 with
   |true=>simp only [cond_true];exact .ptr (hglob g (by simpa [Nat.blt_eq]using hg))
   |false=>simp only [cond_false];exact .poison _
 |func f=>exact .fn rfl (by intro i v v' hv;simp at hv) rfl (by intro i v v' hv;simp at hv)

theorem pB{mu:Mu}{t:Tr Value}{n:Nat}{tmps:Array Value}(hr:gS mu t n tmps)(d:Option Tmp){v v':Value}(hv:ao mu v v'):
 gS mu (match d with|none=>t|some d=>t.set d v) n (eg tmps d v'):=by
 cases d with
 |none=>exact hr
 | some d=>
   refine⟨by simp [eg,hr.size],Tr.sized_set d v hr.sized,fun i u hu=>?_⟩
   rw [Tr.get_set]at hu
   simp only [eg]
   by_cases hc:d=i/\(t.get i).isSome
   . rw [if_pos hc]at hu
     cases hu
     obtain⟨rfl,hs⟩:=hc
     have:d<tmps.size:=by rw [hr.size];exact(hr.sized d).1 hs
     exact⟨v',by simp [this],hv⟩
   . rw [if_neg hc]at hu
     obtain⟨u',h1,h2⟩:=hr.get i u hu
     have hne:d≠i:=by intro e;exact hc ⟨e,by rw [hu];rfl⟩
     exact⟨u',by rw [Array.getElem?_setIfInBounds,if_neg hne];exact h1,h2⟩
end Go.Ab

namespace Go.Ab

abbrev jE(mu:Mu):Prop:= ∀g,g<16->dC mu ⟨g,0,none⟩ ⟨g,0,none⟩
theorem jE.mono{mu mu':Mu}(h:Le mu mu')(k:jE mu):jE mu':=fun g hg=>(k g hg).mono h

structure SR(P:Program)(cx:Cx)(l:Loc)(h:Hp)(mu:Mu)(w:World)(F:FC)(cs0:List Frame)(tmps:Array Value)(dfs:List Deferred)(rcC:Option (Value×Bool)):Prop where
 hr:aF mu h w
 glob:jE mu
 regs:gS mu l.regs cx.nr tmps
 dfs:DL mu l.dfs dfs
 rc:mr mu l.rc rcC
 ko:KOk F.kind cs0 rcC
 fn:F.fn=cx.fn
 rd:RdRel mu cx.round F.round
 rn:F.round≠none->F.kind=.normal
 fs:(P.funcs[F.fn]?).isSome=true

theorem SR.step{P:Program}{cx:Cx}{l:Loc}{h h':Hp}{mu mu':Mu}{w w':World}{F:FC}{cs0:List Frame}{tmps:Array Value}{dfs:List Deferred}{rcC:Option (Value×Bool)}
 (s:SR P cx l h mu w F cs0 tmps dfs rcC) (hh:aF mu' h' w') (le:Le mu mu'):SR P cx l h' mu' w' F cs0 tmps dfs rcC:=
 ⟨hh,s.glob.mono le,s.regs.mono le,LR.mono s.dfs fun _ _=>jR.mono le,s.rc.mono le,s.ko,s.fn,s.rd.mono le,s.rn,s.fs⟩
theorem SR.put{P:Program}{cx:Cx}{l:Loc}{h:Hp}{mu:Mu}{w:World}{F:FC}{cs0:List Frame}{tmps:Array Value}{dfs:List Deferred}{rcC:Option (Value×Bool)}
 (s:SR P cx l h mu w F cs0 tmps dfs rcC) (d:Option Tmp) {v v':Value} (hv:ao mu v v'):SR P cx (l.put d v) h mu w F cs0 (eg tmps d v') dfs rcC:=by
 cases d with
 |none=>exact s
 |some d=>exact⟨s.hr,s.glob,pB s.regs (some d) hv,s.dfs,s.rc,s.ko,s.fn,s.rd,s.rn,s.fs⟩

def Reach(P:Program)(F:FC)(cs0:List Frame)(m:Machine)(k:List Item)(mu':Mu)(w':World)(tmps':Array Value)(dfs':List Deferred)(rcC':Option (Value×Bool)):Ex->Prop
 | .normal=>Steps P m (lone (F.mk' tmps' dfs' k) (aJ rcC' cs0) w')
 | .exit id=> ∃k0,exitTo id k0=exitTo id k/\Steps P m (lone (F.mk' tmps' dfs' (.code (.exit id)::k0)) (aJ rcC' cs0) w')
 | .ret=> ∃k0,Steps P m (lone (F.mk' tmps' dfs' (.code .ret::k0)) (aJ rcC' cs0) w')
 | .pan v=> ∃v' todo,ao mu' v v'/\Steps P m (lone {F.mk' tmps' dfs' todo with mode:=.panicking [{v:=v',recovered:=false}]} (aJ rcC' cs0) w')
def Sim(P:Program)(cx:Cx)(h:Hp)(mu:Mu)(w:World)(F:FC)(cs0:List Frame)(tmps:Array Value)(dfs:List Deferred)(rcC:Option (Value×Bool))(todo k:List Item)(x:Ex)(l':Loc)(h':Hp):Prop:=
 ∃ mu' w' tmps' dfs' rcC',SR P cx l' h' mu' w' F cs0 tmps' dfs' rcC'/\Ext mu h w mu' h' w'/\
   Reach P F cs0 (lone (F.mk' tmps dfs todo) (aJ rcC cs0) w) k mu' w' tmps' dfs' rcC' x
def ip(P:Program)(f:Cx->Code->Loc->Hp->Option (Ex×Loc×Hp)):Prop:=
 ∀ cx c l h x l' h',f cx c l h=some (x,l',h')-> ∀mu w F cs0 tmps dfs rcC k todo,SR P cx l h mu w F cs0 tmps dfs rcC->
   (todo=.code c::k\/ ∃b,c=.loop b/\todo=.inLoop b::k)->Sim P cx h mu w F cs0 tmps dfs rcC todo k x l' h'
def CallEnd(P:Program)(fr:Frame)(w':World)(kind:CallKind)(mu':Mu):Out->Prop
 | .ret v=> ∃v',mT P fr w' kind v'/\ao mu' v v'
 | .pan v=> ∃v',LeaveP P fr kind v'/\ao mu' v v'
def fG (E:Env) (P:Program) (f:FuncId->List Value->Option (Value×Bool)->Hp->Option (Out×Option (Value×Bool)×Hp)):Prop:=
 ∀ g args rc h o rc' h',f g args rc h=some (o,rc',h')->(∃fn,E.fn g=some fn/\fn.body.isSome=true)/\
   ∀ mu w args' rcC cs0 kind,aF mu h w->jE mu->VL mu args args'.toList->mr mu rc rcC->KOk kind cs0 rcC->
     ∃ mu' w' rcC' fr,aF mu' h' w'/\Ext mu h w mu' h' w'/\mr mu' rc' rcC'/\KOk kind cs0 rcC'/\
       Steps P (lone (Frame.enter P g args' kind) (aJ rcC cs0) w) (lone fr (aJ rcC' cs0) w')/\
       CallEnd P fr w' kind mu' o/\fr.fn=g

def OutTo(P:Program)(mu':Mu)(m:Machine)(good bad:Value->Machine):Out->Prop
 | .ret v=> ∃v',ao mu' v v'/\Steps P m (good v')
 | .pan v=> ∃v',ao mu' v v'/\Steps P m (bad v')
def tR(P:Program)(F:FC)(cs0:List Frame)(m:Machine)(ops:Array Oper)(rest:List Nat)(k:List Item)(mu':Mu)(w':World)(tmps':Array Value)(dfs':List Deferred)(rcC':Option (Value×Bool)):Ex->Prop
 | .normal=>Steps P m (lone (F.mk' tmps' dfs' (.inRegion ops rest::k)) (aJ rcC' cs0) w')
 | .pan v=>Reach P F cs0 m k mu' w' tmps' dfs' rcC' (.pan v)
 |_=>False

theorem KOk.normal{cs0:List Frame}{rcC:Option (Value×Bool)}(h:KOk .normal cs0 rcC):rcC=none:=by
 cases rcC with
 |none=>rfl
 |some x=>exact absurd h.1 (by simp)

theorem mZ{mu:Mu}{h:Hp}{w:World}(hh:aF mu h w){b c:Nat}(hp:cV mu b c){r:eo}(hg:h.get b=some (.loop r)):
 ∃top r',mu b=.blk c 0 top/\w.heap[c]? =some (.loop r')/\jV mu r r':=by
 unfold cV at hp
 cases hm:mu b with
 |none=>rw [hm]at hp;exact hp.elim
 |dead=>have:=hh.dead _ hm;rw [hg]at this;cases this
 | blk c' base top=>
   rw [hm]at hp
   obtain⟨rfl,rfl⟩:=hp
   obtain⟨y,o,h1,h2,h3⟩:=hh.blk _ c 0 top hm
   rw [hg]at h1;cases h1
   obtain⟨_,r',rfl,h4⟩:=h3
   exact⟨top,r',rfl,h2,h4⟩
theorem oO{w:World}{c:Nat}{o q:Obj}(h:w.heap[c]? =some q):WSet w (setW w c o) c o:=ur ⟨_,h⟩
theorem vd{mu:Mu}{h:Hp}{w:World}(hh:aF mu h w){b c top:Nat}(hm:mu b=.blk c 0 top){r r2:eo}(hg:h.get b=some (.loop r)){r' r2':Loop}(hw:w.heap[c]? =some (.loop r'))(hl:jV mu r2 r2'):
 aF mu (h.put b (.loop r2)) (setW w c (.loop r2'))/\Ext mu h w mu (h.put b (.loop r2)) (setW w c (.loop r2')):=
 qv hh hm (by intro t sz el e;rw [hg]at e;cases e) (oO hw) ⟨rfl,r2',rfl,hl⟩

theorem ou{mu:Mu}{n:Nat}: ∀(ps:List Tmp) (args args':List Value) (regs:Tr Value) (tmps:Array Value) (r2:Tr Value),kU regs ps args=some r2->gS mu regs n tmps->VL mu args args'->
 ps.length=args'.length/\gS mu r2 n ((ps.zip args').foldl (fun tmps (x:Tmp×Value)=>tmps.setIfInBounds x.1 x.2) tmps)
 | [],[],args',regs,tmps,r2,h,hr,ha=>by
   rw [ha.nil_left];cases h;exact⟨rfl,hr⟩
 | [],_::_,_,_,_,_,h,_,_=>by cases h
 |_::_,[],_,_,_,_,h,_,_=>by cases h
 | t::ts,v::vs,args',regs,tmps,r2,h,hr,ha=>by
   obtain⟨v',vs',rfl,h1,h2⟩:=ha.cons_left
   have h3:=pB hr (some t) h1
   obtain⟨i1,i2⟩:=ou ts vs vs' (regs.set t v) (tmps.setIfInBounds t v') r2 h h3 h2
   exact⟨by simp [i1],i2⟩

section
variable{E:Env}{P:Program}(ok:EOk E P){R:Rec}(hc:fG E P R.call)(hcode:ip P R.code)

theorem yield_run{w:World}{c:Nat}{r:Loop}(hw:w.heap[c]? =some (.loop r)){args:Array Value}(hs:r.params.toList.length=args.toList.length):
 (Instr.yield c args).run P w=.ok (.round c r.fn ((r.params.toList.zip args.toList).foldl (fun tmps (x:Tmp×Value)=>tmps.setIfInBounds x.1 x.2) r.tmps) r.assign r.body) w:=by
 unfold Instr.yield
 have h1:args.size=r.params.size:=by simpa using hs.symm
 simp only [Sem.run_bind,jq hw,Result.andThen_ok,h1,ne_eq,not_true_eq_false,if_false,Sem.run_pure]
 rw [<-Array.foldl_toList,Array.toList_zip]

include ok hcode in
theorem round_sim {mu:Mu} {h h':Hp} {w:World} (hh:aF mu h w) (hg:jE mu) {b c:Nat} (hp:cV mu b c) {args:List Value} {args':Array Value} (ha:VL mu args args'.toList) {out:Out}
 (hl:g9 E R b args h=some (out,h')) (c0:Frame) (cs:List Frame):
 ∃ f tm x y,(Instr.yield c args').run P w=.ok (.round c f tm x y) w/\ ∃mu' w',aF mu' h' w'/\Ext mu h w mu' h' w'/\
   OutTo P mu' (lone (Frame.round c f tm x y .normal) (c0::cs) w) (fun v'=>lone (c0.finish v') cs w') (fun v'=>lone (c0.raise [{v:=v',recovered:=false}]) cs w') out:=by
 unfold g9 at hl
 split at hl
 next r hget=>
  obtain⟨top,r',hm,hw,hlp⟩:=mZ hh hp hget
  cases hfn:(E.fn r.fn).isSome with
  |false=>rw [hfn]at hl;cases hl
  |true=>
  rw [hfn]at hl
  simp only [cond_true]at hl
  split at hl
  next hst=>
   split at hl
   next=>cases hl
   next regs hregs=>
    obtain⟨hpl,hrr⟩:=ou r.params.toList args args'.toList r.regs r'.tmps regs hregs hlp.regs ha
    have hy:=yield_run (P:=P) hw (args:=args') (by rw [hlp.params];exact hpl)
    refine⟨_,_,_,_,hy,?_⟩
    let F:FC:=⟨r'.fn,.normal,some c⟩
    have hfs:(P.funcs[r'.fn]?).isSome=true:=by
     rw [hlp.fn]
     cases he:E.fn r.fn with
     |none=>rw [he]at hfn;cases hfn
     |some fn=>rw [ok.fn _ _ he];rfl
    have sr:SR P ⟨r.fn,r.nr,some b⟩ ⟨regs,[],none⟩ h mu w F (c0::cs) ((r'.params.toList.zip args'.toList).foldl (fun tmps (x:Tmp×Value)=>tmps.setIfInBounds x.1 x.2) r'.tmps) [] none:=
     ⟨hh,hg,by rw [hlp.params];exact hrr,LR.nil,trivial,.inl rfl,hlp.fn,hp,fun _=>rfl,hfs⟩
    split at hl
    next l1 h1 hcode1=>
     obtain⟨mu1,w1,tmps1,dfs1,rc1,sr1,e1,s1⟩:=hcode _ _ _ _ _ _ _ hcode1 mu w F (c0::cs) _ [] none [.beginRound,.code r'.body] [.code r'.assign,.beginRound,.code r'.body] sr (.inl (by rw [hlp.assign]))
     have hrc1:=sr1.ko.normal
     subst hrc1
     split at hl
     next r1 hget1=>
      obtain⟨top1,r1',hm1,hw1,hlp1⟩:=mZ sr1.hr (show cV mu1 b c from sr1.rd) hget1
      split at hl
      next hst1=>
       have hready:r1'.state=.ready:=by
        have:=hlp1.st;rw [hst1]at this
        cases hs:r1'.state<;>rw [hs]at this<;>first|rfl|cases this
       have b1:=tC (P:=P) (F:=F) (tmps:=tmps1) (dfs:=dfs1) (k:=[.code r'.body]) (cs:=c0::cs) (c:=c) rfl hw1 hready
       have lp2:jV mu1 {r1 with st:=1} {r1' with state:=.busy}:=⟨hlp1.fn,hlp1.regs,hlp1.params,hlp1.assign,hlp1.body,rfl,hlp1.pending⟩
       obtain⟨hh2,e2⟩:=vd sr1.hr hm1 hget1 hw1 lp2
       have sr2:=sr1.step hh2 (Le.refl _)
       have e12:=Ext.trans e1 e2
       have s12:Steps P (lone (Frame.round c r'.fn ((r'.params.toList.zip args'.toList).foldl (fun tmps (x:Tmp×Value)=>tmps.setIfInBounds x.1 x.2) r'.tmps) r'.assign r'.body .normal) (c0::cs) w)
        (lone (F.mk' tmps1 dfs1 [.code r'.body]) (c0::cs) (setW w1 c (.loop {r1' with state:=.busy}))):=Steps.trans s1 (.one b1)
       have leave: ∀{h3:Hp} {mu3:Mu} {w3:World} {tmps3:Array Value} {dfs3:List Deferred} {todo:List Item} {jump:Option Code} {r2:eo} {pe:Option Code} {st:Nat},aF mu3 h3 w3->cV mu3 b c->h3.get b=some (.loop r2)->
        Ext mu1 (h1.put b (.loop {r1 with st:=1})) (setW w1 c (.loop {r1' with state:=.busy})) mu3 h3 w3->
        Steps P (lone (F.mk' tmps1 dfs1 [.code r'.body]) (c0::cs) (setW w1 c (.loop {r1' with state:=.busy}))) (lone (F.mk' tmps3 dfs3 todo) (c0::cs) w3)->
        uQ todo jump->pe=jump->st=(if jump.isNone then 0 else 2)->
        ∃ mu' w',aF mu' (h3.put b (.loop {r2 with st:=st,pending:=pe})) w'/\Ext mu h w mu' (h3.put b (.loop {r2 with st:=st,pending:=pe})) w'/\
          ∃v',ao mu' (.bool jump.isNone) v'/\Steps P (lone (Frame.round c r'.fn ((r'.params.toList.zip args'.toList).foldl (fun tmps (x:Tmp×Value)=>tmps.setIfInBounds x.1 x.2) r'.tmps) r'.assign r'.body .normal) (c0::cs) w) (lone (c0.finish v') cs w'):=by
        intro h3 mu3 w3 tmps3 dfs3 todo jump r2 pe st hh3 hp3 hget3 e3 s3 hlv hpe hst
        obtain⟨top3,r2',hm3,hw3,hlp3⟩:=mZ hh3 hp3 hget3
        have b3:=tD (P:=P) (F:=F) (tmps:=tmps3) (dfs:=dfs3) (cs:=cs) (c:=c) rfl rfl hw3 hlv (c0:=c0)
        have lp4:jV mu3 {r2 with st:=st,pending:=pe} {r2' with state:=if jump.isNone then .ready else .done,pending:=jump}:=
         ⟨hlp3.fn,hlp3.regs,hlp3.params,hlp3.assign,hlp3.body,by subst hst;cases jump<;>rfl,hpe.symm⟩
        obtain⟨hh4,e4⟩:=vd hh3 hm3 hget3 hw3 lp4
        exact⟨mu3,_,hh4,Ext.trans e12 (Ext.trans e3 e4),_,.bool _,Steps.trans s12 (Steps.trans s3 (.one b3))⟩
       split at hl
       next l3 h3 hcode3=>
        obtain⟨mu3,w3,tmps3,dfs3,rc3,sr3,e3,s3⟩:=hcode _ _ _ _ _ _ _ hcode3 mu1 _ F (c0::cs) _ _ none [] [.code r'.body] sr2 (.inl (by rw [hlp.body]))
        have hrc3:=sr3.ko.normal
        subst hrc3
        split at hl
        next r2 hget2=>
         cases hl
         exact leave sr3.hr (show cV mu3 b c from sr3.rd) hget2 e3 s3 (.inl ⟨rfl,rfl⟩) rfl rfl
        next=>cases hl
       next id l3 h3 hcode3=>
        obtain⟨mu3,w3,tmps3,dfs3,rc3,sr3,e3,k0,hk0,s3⟩:=hcode _ _ _ _ _ _ _ hcode3 mu1 _ F (c0::cs) _ _ none [] [.code r'.body] sr2 (.inl (by rw [hlp.body]))
        have hrc3:=sr3.ko.normal
        subst hrc3
        split at hl
        next r2 hget2=>
         cases hl
         exact leave sr3.hr (show cV mu3 b c from sr3.rd) hget2 e3 s3 (.inr (.inr ⟨id,k0,rfl,hk0.trans rfl,rfl⟩)) rfl rfl
        next=>cases hl
       next l3 h3 hcode3=>
        obtain⟨mu3,w3,tmps3,dfs3,rc3,sr3,e3,k0,s3⟩:=hcode _ _ _ _ _ _ _ hcode3 mu1 _ F (c0::cs) _ _ none [] [.code r'.body] sr2 (.inl (by rw [hlp.body]))
        have hrc3:=sr3.ko.normal
        subst hrc3
        split at hl
        next r2 hget2=>
         cases hl
         exact leave sr3.hr (show cV mu3 b c from sr3.rd) hget2 e3 s3 (.inr (.inl ⟨k0,rfl,rfl⟩)) rfl rfl
        next=>cases hl
       next v l3 h3 hcode3=>
        obtain⟨mu3,w3,tmps3,dfs3,rc3,sr3,e3,v',todo,hv,s3⟩:=hcode _ _ _ _ _ _ _ hcode3 mu1 _ F (c0::cs) _ _ none [] [.code r'.body] sr2 (.inl (by rw [hlp.body]))
        have hrc3:=sr3.ko.normal
        subst hrc3
        split at hl
        next hd=>
         cases hl
         have hd3:=sr3.dfs
         rw [hd]at hd3
         have:=LR.nil_left hd3
         subst this
         have lv:LeaveP P {F.mk' tmps3 [] todo with mode:=.panicking [{v:=v',recovered:=false}]} .normal v':=⟨rfl,rfl,rfl,by
          obtain⟨fn,h⟩:=Option.isSome_iff_exists.1 hfs;exact⟨fn,h⟩⟩
         exact⟨mu3,w3,sr3.hr,Ext.trans e12 e3,v',hv,Steps.trans s12 (Steps.trans s3 (.one (kk lv)))⟩
        next=>cases hl
       next=>cases hl
      next=>cases hl
     next=>cases hl
    next=>cases hl
  next=>cases hl
 next=>cases hl
end
end Go.Ab

namespace Go.Ab
section
variable{E:Env}{P:Program}(ok:EOk E P){R:Rec}(hc:fG E P R.call)(hcode:ip P R.code)

include ok hc hcode in
theorem oH {mu:Mu} {h h':Hp} {w:World} (hh:aF mu h w) (hg:jE mu) {ρ:Operand->Value} {tmps:Array Value} (hρ: ∀x,ao mu (ρ x) (cS tmps x)) {F:FC} {dfs:List Deferred} {k:List Item} {cs:List Frame}
 {ops:Array Oper} {i:Nat} {rest:List Nat} {o:Oper} (ho:ops[i]? =some o) (hw:Region.wanted o (yielded ops tmps)=true) {out:Out} (hl:ct E R (aop E ρ h o.op)=some (out,h')):
 ∃ mu' w',aF mu' h' w'/\Ext mu h w mu' h' w'/\
   OutTo P mu' (lone (F.mk' tmps dfs (.inRegion ops (i::rest)::k)) cs w) (fun v'=>lone (F.mk' (eg tmps o.dst v') dfs (.inRegion ops rest::k)) cs w')
    (fun v'=>lone {F.mk' tmps dfs (.inRegion ops (i::rest)::k)with mode:=.panicking [{v:=v',recovered:=false}]} cs w') out:=by
 have hd:F.round=none\/ ∀c,o.op≠ .defer c:=by
  right
  intro c hcc
  rw [hcc]at hl
  simp only [aop]at hl
  split at hl
  . split at hl<;>cases hl
  . cases hl
 have hfin: ∀v,(F.mk' tmps dfs (.inRegion ops (i::rest)::k)).finish v=F.mk' (eg tmps o.dst v) dfs (.inRegion ops rest::k):=by
  intro v;rw [iS,ho];rfl
 cases ha:aop E ρ h o.op with
 |none=>rw [ha]at hl;cases hl
 | some q=>
   obtain⟨nx,h1⟩:=q
   rw [ha]at hl
   have hres:=aop_run (P:=P) ok hh hρ (o:=o) ha
   cases nx with
   | val v=>
     cases hl
     obtain⟨v',mu',w',g1,g2,g3,g4⟩:=hres
     exact⟨mu',w',g2,g3,v',g4,.one (ua ho hw hd g1)⟩
   | skip=>
     cases hl
     obtain⟨mu',w',g1,g2,g3⟩:=hres
     exact⟨mu',w',g2,g3,undef,.tuple rfl (by intro i v v' hv;simp at hv),.one (st_opskip ho hw hd g1)⟩
   | call f args=>
     obtain⟨rfl,args',g1,g2⟩:=hres
     simp only [ct]at hl
     split at hl
     next x rc' h2 hcall=>
      cases hl
      obtain⟨⟨fn,hfn,hbody⟩,hs⟩:=hc _ _ _ _ _ _ _ hcall
      obtain⟨mu',w',rcC',fr,k1,k2,k3,k4,k5,k6,_⟩:=hs mu w args' none (F.mk' tmps dfs (.inRegion ops (i::rest)::k)::cs) .normal hh hg g2 trivial (.inl rfl)
      have:=k4.normal
      subst this
      have hen:=st_enter (P:=P) (F:=F) (dfs:=dfs) (k:=k) (cs:=cs) (rest:=rest) ho hw hd (g1.trans (ok.call f fn args' w hfn hbody))
      refine⟨mu',w',k1,k2,?_⟩
      cases out with
      | ret v=>
        obtain⟨v',l1,l2⟩:=k6
        refine⟨v',l2,Steps.trans (.one hen) (Steps.trans k5 (.one ?_))⟩
        show step P _=.next (lone (F.mk' (eg tmps o.dst v') dfs (.inRegion ops rest::k)) cs w')
        rw [<-hfin];exact tS l1
      | pan v=>
        obtain⟨v',l1,l2⟩:=k6
        exact⟨v',l2,Steps.trans (.one hen) (Steps.trans k5 (.one (kk l1)))⟩
     next=>cases hl
   | yield b args=>
     obtain⟨rfl,c,args',g1,g2,g3⟩:=hres
     simp only [ct]at hl
     obtain⟨f,tm,x,y,y1,mu',w',k1,k2,k3⟩:=round_sim ok hcode hh hg g2 g3 hl (F.mk' tmps dfs (.inRegion ops (i::rest)::k)) cs
     have hen:=st_round (P:=P) (F:=F) (dfs:=dfs) (k:=k) (cs:=cs) (rest:=rest) ho hw hd (g1.trans y1)
     refine⟨mu',w',k1,k2,?_⟩
     cases out with
     | ret v=>
       obtain⟨v',l2,l1⟩:=k3
       refine⟨v',l2,Steps.trans (.one hen) ?_⟩
       show Steps P _ (lone (F.mk' (eg tmps o.dst v') dfs (.inRegion ops rest::k)) cs w')
       rw [<-hfin];exact l1
     | pan v=>
       obtain⟨v',l2,l1⟩:=k3
       exact⟨v',l2,Steps.trans (.one hen) l1⟩
   | panic v=>
     cases hl
     obtain⟨rfl,v',g1,g2⟩:=hres
     exact⟨mu,w,hh,Ext.refl mu _ w hh,v',g2,.one (st_panic ho hw hd g1)⟩
   |recov=>cases hl
   |defer d=>cases hl

include ok hc hcode in
theorem wY {cx :Cx} {l l':Loc} {h h':Hp} {mu:Mu} {w:World} {F:FC} {cs0:List Frame} {tmps:Array Value} {dfs:List Deferred} {rcC:Option (Value×Bool)} (s:SR P cx l h mu w F cs0 tmps dfs rcC)
 {k:List Item} {ops:Array Oper} {i:Nat} {rest:List Nat} {o:Oper} (ho:ops[i]? =some o) (hw:Region.wanted o (yielded ops tmps)=true) {x:Ex} (hl:dk E R cx o l h=some (x,l',h')):
 ∃ mu' w' tmps' dfs' rcC',SR P cx l' h' mu' w' F cs0 tmps' dfs' rcC'/\Ext mu h w mu' h' w'/\
   tR P F cs0 (lone (F.mk' tmps dfs (.inRegion ops (i::rest)::k)) (aJ rcC cs0) w) ops rest k mu' w' tmps' dfs' rcC' x:=by
 have hρ: ∀x,ao mu (l.ev x) (cS tmps x):=fun x=>ev_rel s.regs x s.glob
 unfold dk at hl
 have plain: ∀{r:Option (cR×Hp)},aop E l.ev h o.op=r->kJ o l (ct E R r)=some (x,l',h')-> ∃mu' w' tmps' dfs' rcC',SR P cx l' h' mu' w' F cs0 tmps' dfs' rcC'/\Ext mu h w mu' h' w'/\
  tR P F cs0 (lone (F.mk' tmps dfs (.inRegion ops (i::rest)::k)) (aJ rcC cs0) w) ops rest k mu' w' tmps' dfs' rcC' x:=by
  intro r hr hl
  cases hv:ct E R r with
  |none=>rw [hv]at hl;cases hl
  | some q=>
    obtain⟨out,h1⟩:=q
    rw [hv]at hl
    rw [<-hr]at hv
    obtain⟨mu',w',g1,g2,g3⟩:=oH ok hc hcode s.hr s.glob hρ (F:=F) (dfs:=dfs) (k:=k) (cs:=aJ rcC cs0) (rest:=rest) ho hw hv
    have s':=s.step g1 (g2.le s.hr)
    cases out with
    | ret v=>
      cases hl
      obtain⟨v',k1,k2⟩:=g3
      exact⟨mu',w',_,dfs,rcC,s'.put o.dst k1,g2,k2⟩
    | pan v=>
      cases hl
      obtain⟨v',k1,k2⟩:=g3
      exact⟨mu',w',tmps,dfs,rcC,s',g2,v',_,k1,k2⟩
 cases ha:aop E l.ev h o.op with
 |none=>rw [ha]at hl;exact plain ha hl
 | some q =>
   obtain⟨nx,h1⟩:=q
   rw [ha]at hl
   have hres:=aop_run (P:=P) ok s.hr hρ (o:=o) ha
   cases nx with
   |val v=>exact plain ha hl
   |skip=>exact plain ha hl
   |call f args=>exact plain ha hl
   |yield b args=>exact plain ha hl
   |panic v=>exact plain ha hl
   | recov =>
     obtain⟨rfl,g1⟩:=hres
     simp only []at hl
     cases hr:cx.round with
     |some r=>rw [hr]at hl;cases hl
     | none=>
       rw [hr]at hl
       simp only []at hl
       have hF:F.round=none:=by
        have:=s.rd;rw [hr]at this
        cases hf:F.round with
        |none=>rfl
        |some c=>rw [hf]at this;exact this.elim
       have hrc:=s.rc
       have none_case:tryRecover (F.mk' tmps dfs (.inRegion ops (i::rest)::k)) (aJ rcC cs0)=none->
        ∃ mu' w' tmps' dfs' rcC',SR P cx (l.put o.dst .nilIface) h1 mu' w' F cs0 tmps' dfs' rcC'/\Ext mu h1 w mu' h1 w'/\
          Steps P (lone (F.mk' tmps dfs (.inRegion ops (i::rest)::k)) (aJ rcC cs0) w) (lone (F.mk' tmps' dfs' (.inRegion ops rest::k)) (aJ rcC' cs0) w'):=by
        intro ht
        exact⟨mu,w,_,dfs,rcC,s.put o.dst .nili,Ext.refl mu _ w s.hr,.one (qU ho hw hF g1 ht)⟩
       cases hlr:l.rc with
       | none=>
         rw [hlr]at hl hrc
         cases hl
         apply none_case
         cases rcC with
         |some y=>exact hrc.elim
         | none=>
           rcases s.ko with hk|⟨hk,c,r,rfl,hm⟩
           . simp [tryRecover,FC.mk',hk]
           . simp [tryRecover,FC.mk',hk,aJ,hm]
       | some y =>
         obtain⟨v,b⟩:=y
         rw [hlr]at hl hrc
         cases rcC with
         |none=>exact hrc.elim
         | some z=>
           obtain⟨v',b'⟩:=z
           obtain⟨rfl,hv⟩:=hrc
           obtain⟨hk,hne⟩:=s.ko
           cases cs0 with
           |nil=>exact absurd rfl hne
           | cons c r=>
             cases b with
             | true=>
               cases hl
               apply none_case
               simp [tryRecover,FC.mk',hk,aJ]
             | false=>
               cases hl
               have ht:tryRecover (F.mk' tmps dfs (.inRegion ops (i::rest)::k)) (aJ (some (v',false)) (c::r))=some (v',aJ (some (v',true)) (c::r)):=by
                simp [tryRecover,FC.mk',hk,aJ]
               have s2:SR P cx {l with rc:=some (v,true)} h' mu w F (c::r) tmps dfs (some (v',true)):=
                ⟨s.hr,s.glob,s.regs,s.dfs,⟨rfl,hv⟩,⟨hk,by simp⟩,s.fn,s.rd,s.rn,s.fs⟩
               exact⟨mu,w,_,dfs,_,s2.put o.dst hv,Ext.refl mu _ w s.hr,.one (qx ho hw hF g1 ht)⟩
   | defer d=>
     obtain⟨rfl,d',g1,g2⟩:=hres
     simp only []at hl
     cases hr:cx.round with
     |some r=>rw [hr]at hl;cases hl
     | none=>
       rw [hr]at hl
       cases hl
       have hF:F.round=none:=by
        have:=s.rd;rw [hr]at this
        cases hf:F.round with
        |none=>rfl
        |some c=>rw [hf]at this;exact this.elim
       have s2:SR P cx {l with dfs:=d::l.dfs} h' mu w F cs0 tmps (d'::dfs) rcC:=
        ⟨s.hr,s.glob,s.regs,LR.cons g2 s.dfs,s.rc,s.ko,s.fn,s.rd,s.rn,s.fs⟩
       exact⟨mu,w,_,_,rcC,s2.put o.dst (v':=undef) (.tuple rfl (by intro i v v' hv;simp at hv)),Ext.refl mu _ w s.hr,.one (st_defer ho hw hF g1)⟩

omit ok in
theorem sn {mu:Mu} {ops:Array Oper} {t:Tr Value} {n:Nat} {tmps:Array Value} (hr:gS mu t n tmps) {o:Oper} {b:Bool} (hg:bQ ops.toList t o=some b):Region.wanted o (yielded ops tmps)=b:=by
 unfold bQ at hg
 unfold Region.wanted
 cases hgu:o.guard with
 |none=>rw [hgu]at hg;cases hg;rfl
 | some q=>
   obtain⟨j,want⟩:=q
   rw [hgu]at hg
   simp only []at hg⊢
   unfold yielded
   cases hj:ops[j]? with
   |none=>rw [yk,hj]at hg;cases hg;simp [Option.bind]
   | some o'=>
     rw [yk,hj]at hg
     simp only [Option.bind_some]at hg⊢
     cases hd:o'.dst with
     |none=>rw [hd]at hg;cases hg;rfl
     | some d=>
       rw [hd]at hg
       simp only [Option.bind_some]at hg⊢
       split at hg
       next b' hb=>
        obtain⟨v',h1,h2⟩:=hr.get d _ hb
        cases h2
        rw [h1]
        cases hg
        cases b'<;>cases want<;>rfl
       next x hb=>
        obtain⟨v',h1,h2⟩:=hr.get d _ hb
        rw [h1]
        cases hg
        cases h2
        rfl
       next=>cases hg

include ok hc hcode in
theorem evOps_sim{cx:Cx}{ops:Array Oper}{F:FC}{cs0:List Frame}{k:List Item}: ∀(os:List Oper) (i:Nat) (l l':Loc) (h h':Hp) (mu:Mu) (w:World) (tmps:Array Value) (dfs:List Deferred) (rcC:Option (Value×Bool)) (x:Ex),
 ops.toList.drop i=os->SR P cx l h mu w F cs0 tmps dfs rcC->ig E R cx ops.toList os l h=some (x,l',h')->
 Sim P cx h mu w F cs0 tmps dfs rcC (.inRegion ops (yr i os.length)::k) k x l' h':=by
 intro os
 induction os with
 | nil=>
   intro i l l' h h' mu w tmps dfs rcC x hd s hl
   simp only [ig]at hl
   cases hl
   exact⟨mu,w,tmps,dfs,rcC,s,Ext.refl mu h w s.hr,.one oz⟩
 | cons o os ih=>
   intro i l l' h h' mu w tmps dfs rcC x hd s hl
   have ho:ops[i]? =some o:=by
    have:=congrArg (·[0]?) hd
    simpa using this
   have hd':ops.toList.drop (i+1)=os:=by
    have:=congrArg (List.drop 1) hd
    simpa [Nat.add_comm]using this
   simp only [ig]at hl
   rw [yf,List.range'_succ]
   cases hg:bQ ops.toList l.regs o with
   |none=>rw [hg]at hl;cases hl
   | some b=>
     have hw:=sn s.regs hg
     rw [hg]at hl
     cases b with
     | false=>
       simp only []at hl
       have hstep:=rx (P:=P) (F:=F) (tmps:=tmps) (dfs:=dfs) (k:=k) (cs:=aJ rcC cs0) (w:=w) (ops:=ops) (i:=i) (rest:=yr (i+1) os.length) (by rw [ho];simpa using hw)
       rw [ho]at hstep
       obtain⟨mu',w',tmps',dfs',rcC',s',e',r'⟩:=ih (i+1) _ _ _ _ _ _ _ _ _ _ hd' (s.put o.dst (v':=undef) (.tuple rfl (by intro i v v' hv;simp at hv))) hl
       refine⟨mu',w',tmps',dfs',rcC',s',e',?_⟩
       cases x with
       |normal=>exact .head hstep r'
       |exit id=>obtain⟨k0,a,b⟩:=r';exact⟨k0,a,.head hstep b⟩
       |ret=>obtain⟨k0,b⟩:=r';exact⟨k0,.head hstep b⟩
       |pan v=>obtain⟨v',td,a,b⟩:=r';exact⟨v',td,a,.head hstep b⟩
     | true=>
       simp only []at hl
       cases hs:dk E R cx o l h with
       |none=>rw [hs]at hl;cases hl
       | some q=>
         obtain⟨x1,l1,h1⟩:=q
         rw [hs]at hl
         obtain⟨mu1,w1,tmps1,dfs1,rcC1,s1,e1,r1⟩:=wY ok hc hcode s (k:=k) (rest:=yr (i+1) os.length) ho hw hs
         cases x1 with
         | normal=>
           simp only []at hl r1
           obtain⟨mu',w',tmps',dfs',rcC',s',e',r'⟩:=ih (i+1) _ _ _ _ _ _ _ _ _ _ hd' s1 hl
           refine⟨mu',w',tmps',dfs',rcC',s',Ext.trans e1 e',?_⟩
           cases x with
           |normal=>exact Steps.trans r1 r'
           |exit id=>obtain⟨k0,a,b⟩:=r';exact⟨k0,a,Steps.trans r1 b⟩
           |ret=>obtain⟨k0,b⟩:=r';exact⟨k0,Steps.trans r1 b⟩
           |pan v=>obtain⟨v',td,a,b⟩:=r';exact⟨v',td,a,Steps.trans r1 b⟩
         |exit id=>exact r1.elim
         |ret=>exact r1.elim
         | pan v=>
           cases hl
           exact⟨mu1,w1,tmps1,dfs1,rcC1,s1,e1,r1⟩
end
end Go.Ab

namespace Go.Ab

theorem Reach.pre{P:Program}{F:FC}{cs0:List Frame}{m m1:Machine}{k:List Item}{mu':Mu}{w':World}{tmps':Array Value}{dfs':List Deferred}{rcC':Option (Value×Bool)}{x:Ex}
 (h:Steps P m m1) (r:Reach P F cs0 m1 k mu' w' tmps' dfs' rcC' x):Reach P F cs0 m k mu' w' tmps' dfs' rcC' x:=by
 cases x with
 |normal=>exact Steps.trans h r
 |exit id=>obtain⟨k0,a,b⟩:=r;exact⟨k0,a,Steps.trans h b⟩
 |ret=>obtain⟨k0,b⟩:=r;exact⟨k0,Steps.trans h b⟩
 |pan v=>obtain⟨v',td,a,b⟩:=r;exact⟨v',td,a,Steps.trans h b⟩
theorem Sim.pre{P:Program}{cx:Cx}{h h1:Hp}{mu mu1:Mu}{w w1:World}{F:FC}{cs0:List Frame}{tmps tmps1:Array Value}{dfs dfs1:List Deferred}{rcC rcC1:Option (Value×Bool)}{todo todo1 k:List Item}{x:Ex}{l':Loc}{h':Hp}
 (hs:Steps P (lone (F.mk' tmps dfs todo) (aJ rcC cs0) w) (lone (F.mk' tmps1 dfs1 todo1) (aJ rcC1 cs0) w1)) (e:Ext mu h w mu1 h1 w1)
 (s:Sim P cx h1 mu1 w1 F cs0 tmps1 dfs1 rcC1 todo1 k x l' h'):Sim P cx h mu w F cs0 tmps dfs rcC todo k x l' h':=by
 obtain⟨mu',w',tmps',dfs',rcC',a,b,c⟩:=s
 exact⟨mu',w',tmps',dfs',rcC',a,Ext.trans e b,c.pre hs⟩
theorem Reach.out{P:Program}{F:FC}{cs0:List Frame}{m:Machine}{k k2:List Item}{mu':Mu}{w':World}{tmps':Array Value}{dfs':List Deferred}{rcC':Option (Value×Bool)}{x:Ex}
 (hk: ∀id,x=.exit id->exitTo id k=exitTo id k2) (hn:x≠ .normal) (r:Reach P F cs0 m k mu' w' tmps' dfs' rcC' x):Reach P F cs0 m k2 mu' w' tmps' dfs' rcC' x:=by
 cases x with
 |normal=>exact absurd rfl hn
 |exit id=>obtain⟨k0,a,b⟩:=r;exact⟨k0,a.trans (hk id rfl),b⟩
 |ret=>exact r
 |pan v=>exact r

def DrawOk(E:Env)(P:Program)(R:Rec):Prop:=
 ∀ cx id ops l h l' h' q ps tr,plan E (dQ ops.toList)=some (q,ps)->dB E R (dQ ops.toList) q (dQ ops.toList) 0 l h []=some (l',h',tr)->dK tr ps=true-> ∀mu w F cs0 tmps dfs rcC k,SR P cx l h mu w F cs0 tmps dfs rcC->
   Sim P cx h mu w F cs0 tmps dfs rcC (.code (.region id ops true)::k) k .normal l' h'

section
variable{E:Env}{P:Program}(ok:EOk E P){R:Rec}(hc:fG E P R.call)(hcode:ip P R.code)

theorem dead_at{mu:Mu}{h:Hp}{w:World}(hh:aF mu h w){b c:Nat}(hp:cV mu b c)(hg:h.get b=some .dfr): ∃top,mu b=.blk c 0 top/\w.heap[c]? =some (.deferred (some [])):=by
 unfold cV at hp
 cases hm:mu b with
 |none=>rw [hm]at hp;exact hp.elim
 |dead=>have:=hh.dead _ hm;rw [hg]at this;cases this
 | blk c' base top=>
   rw [hm]at hp
   obtain⟨rfl,rfl⟩:=hp
   obtain⟨y,o,h1,h2,h3⟩:=hh.blk _ c 0 top hm
   rw [hg]at h1;cases h1
   obtain⟨_,rfl⟩:=h3
   exact⟨top,rfl,h2⟩

theorem qL(w:World)(o:Obj):WNew w (jy w o) o:=⟨rfl,rfl,rfl,rfl⟩
theorem vb{mu:Mu}{h:Hp}{w:World}(hh:aF mu h w){r:eo}{r':Loop}(hl:jV mu r r'):
 aF (upd mu h.n (.blk w.heap.size 0 0)) (h.new (.loop r)) (jy w (.loop r'))/\Ext mu h w (upd mu h.n (.blk w.heap.size 0 0)) (h.new (.loop r)) (jy w (.loop r')):=
 kc hh (qL w _) ⟨rfl,r',rfl,hl⟩
theorem dfr_new{mu:Mu}{h:Hp}{w:World}(hh:aF mu h w):
 aF (upd mu h.n (.blk w.heap.size 0 0)) (h.new .dfr) (jy w (.deferred (some [])))/\Ext mu h w (upd mu h.n (.blk w.heap.size 0 0)) (h.new .dfr) (jy w (.deferred (some []))):=
 kc hh (qL w _) ⟨rfl,rfl⟩

theorem wD{cx:Cx}{params:Array Tmp}{assign body:Code}{l:Loc}{h h1:Hp}{d:Nat}{dfsA:List Deferred}
 (hpre:(match cx.round with
   |none=>some (h.new .dfr,h.n,({target:=.collected h.n,args:=#[]}:Deferred)::l.dfs)
   | some r=>match h.get r with
     |some (.loop x)=>some (h,x.defers,l.dfs)
     |_=>none)=some (h1,d,dfsA))
 {mu:Mu} {w:World} {F:FC} {cs0:List Frame} {tmps:Array Value} {dfs:List Deferred} {rcC:Option (Value×Bool)} (s:SR P cx l h mu w F cs0 tmps dfs rcC):
 ∃ mu2 w2 c mark,(Instr.enterLoop F.fn tmps params assign body F.round).run P w=.ok (c,mark) w2/\cV mu2 h1.n c/\
   SR P cx {l with dfs:=dfsA} (h1.new (.loop {fn:=cx.fn,regs:=l.regs,nr:=cx.nr,params,assign,body,st:=0,pending:=none,defers:=d})) mu2 w2 F cs0 tmps (mark++dfs) rcC/\
   Ext mu h w mu2 (h1.new (.loop {fn:=cx.fn,regs:=l.regs,nr:=cx.nr,params,assign,body,st:=0,pending:=none,defers:=d})) w2:=by
 cases hr:cx.round with
 | none=>
   rw [hr]at hpre
   cases hpre
   have hF:F.round=none:=by
    have:=s.rd;rw [hr]at this
    cases hf:F.round with
    |none=>rfl
    |some c=>rw [hf]at this;exact this.elim
   obtain⟨a1,a2⟩:=dfr_new s.hr
   have sr1:=s.step a1 (a2.le s.hr)
   have lp:jV (upd mu h.n (.blk w.heap.size 0 0)) {fn:=cx.fn,regs:=l.regs,nr:=cx.nr,params,assign,body,st:=0,pending:=none,defers:=h.n}
    {state:=.ready,pending:=none,fn:=F.fn,tmps,params,assign,body,defers:=w.heap.size}:=⟨s.fn,sr1.regs,rfl,rfl,rfl,rfl,rfl⟩
   obtain⟨b1,b2⟩:=vb a1 lp
   have sr2:=sr1.step b1 (b2.le a1)
   refine⟨_,_,_,_,by rw [hF];exact uM,?_,?_,Ext.trans a2 b2⟩
   . show cV (upd _ (h.n+1) _) (h.n+1) (w.heap.size+1)
     unfold cV
     rw [upd_same]
     exact⟨by simp [jy],rfl⟩
   . refine⟨sr2.hr,sr2.glob,sr2.regs,LR.cons ⟨w.heap.size,rfl,?_⟩ sr2.dfs,sr2.rc,sr2.ko,sr2.fn,sr2.rd,sr2.rn,sr2.fs⟩
     show cV (upd (upd mu h.n (.blk w.heap.size 0 0)) (h.n+1) _) h.n w.heap.size
     unfold cV
     rw [aG _ _ (by omega),upd_same]
     exact⟨rfl,rfl⟩
 | some r=>
   rw [hr]at hpre
   simp only []at hpre
   split at hpre
   next x hx=>
    cases hpre
    cases hf:F.round with
    |none=>have:=s.rd;rw [hr,hf]at this;exact this.elim
    | some c=>
      have hp:cV mu r c:=by have:=s.rd;rw [hr,hf]at this;exact this
      obtain⟨top,x',g1,g2,g3⟩:=mZ s.hr hp hx
      have lp:jV mu {fn:=cx.fn,regs:=l.regs,nr:=cx.nr,params,assign,body,st:=0,pending:=none,defers:=x.defers}
       {state:=.ready,pending:=none,fn:=F.fn,tmps,params,assign,body,defers:=x'.defers}:=⟨s.fn,s.regs,rfl,rfl,rfl,rfl,rfl⟩
      obtain⟨b1,b2⟩:=vb s.hr lp
      have sr2:=s.step b1 (b2.le s.hr)
      refine⟨_,_,_,[],rh g2,?_,sr2,b2⟩
      unfold cV
      rw [upd_same]
      exact⟨rfl,rfl⟩
   next=>cases hpre

include ok hc in
theorem tM {cx:Cx} {f:Operand} {params:Array Tmp} {assign body:Code} {l l':Loc} {h h':Hp} {x:Ex} (hl:gk R cx (l.ev f) params assign body l h=some (x,l',h'))
 {mu:Mu} {w:World} {F:FC} {cs0:List Frame} {tmps:Array Value} {dfs:List Deferred} {rcC:Option (Value×Bool)} {k:List Item} (s:SR P cx l h mu w F cs0 tmps dfs rcC):
 Sim P cx h mu w F cs0 tmps dfs rcC (.code (.rangeFunc f params assign body)::k) k x l' h':=by
 unfold gk at hl
 have hf:=ev_rel s.regs f s.glob
 split at hl
 next fv g a b hfv=>
  rw [hfv]at hf
  cases hev:cS tmps f<;>rw [hev]at hf<;>cases hf
  rename_i a' b' f1 f2 f3 f4
  split at hl
  next=>cases hl
  next h1 d dfsA hpre=>
   obtain⟨mu2,w2,c,mark,h0,hp,sr2,e2⟩:=wD (params:=params) (assign:=assign) (body:=body) hpre s
   cases hcall:R.call g (a.toList++[.func (.yield h1.n) #[] #[]]++b.toList) none (h1.new (.loop {fn:=cx.fn,regs:=l.regs,nr:=cx.nr,params,assign,body,st:=0,pending:=none,defers:=d}))with
   |none=>rw [hcall]at hl;cases hl
   | some q=>
     obtain⟨out,rc',h2⟩:=q
     rw [hcall]at hl
     obtain⟨⟨fn,hfn,hbody⟩,hs⟩:=hc _ _ _ _ _ _ _ hcall
     have st1:=st_range (P:=P) (F:=F) (dfs:=dfs) (k:=k) (cs:=aJ rcC cs0) hev (fun args w=>ok.call g fn args w hfn hbody) h0
     have hargs:VL mu2 (a.toList++[.func (.yield h1.n) #[] #[]]++b.toList) (a'++#[Value.func (.yield c) #[] #[]]++b').toList:=by
      simp only [yo]
      have le:=e2.le s.hr
      exact LR.append (LR.append (VL.mono le ⟨f1,f2⟩) (LR.cons (.yield hp) LR.nil)) (VL.mono le ⟨f3,f4⟩)
     obtain⟨mu3,w3,rcC',fr,k1,k2,k3,k4,k5,k6,_⟩:=hs mu2 w2 (a'++#[.func (.yield c) #[] #[]]++b') none (F.mk' tmps (mark++dfs) (.inRangeFunc c::k)::aJ rcC cs0) .normal sr2.hr sr2.glob hargs trivial (.inl rfl)
     have:=k4.normal
     subst this
     have le3:=k2.le sr2.hr
     have sr3:=sr2.step k1 le3
     cases out with
     | pan v=>
       cases hl
       obtain⟨v',l1,l2⟩:=k6
       exact⟨mu3,w3,tmps,mark++dfs,rcC,sr3,Ext.trans e2 k2,v',.inRangeFunc c::k,l2,Steps.trans (.one st1) (Steps.trans k5 (.one (kk l1 (c:=F.mk' tmps (mark++dfs) (.inRangeFunc c::k)) (cs:=aJ rcC cs0))))⟩
     | ret v=>
       obtain⟨v',l1,l2⟩:=k6
       simp only []at hl
       split at hl
       next x1 hx1=>
        have hp3:cV mu3 h1.n c:=hp.mono le3
        obtain⟨top3,x1',g1,g2,g3⟩:=mZ k1 hp3 hx1
        have sfin:Steps P (lone (F.mk' tmps dfs (.code (.rangeFunc f params assign body)::k)) (aJ rcC cs0) w) (lone (F.mk' tmps (mark++dfs) (.endRangeFunc c::k)) (aJ rcC cs0) w3):=
         Steps.trans (.one st1) (Steps.trans k5 (.one (tS l1 (c:=F.mk' tmps (mark++dfs) (.inRangeFunc c::k)) (cs:=aJ rcC cs0))))
        split at hl
        next=>cases hl
        next hst=>
         have hnb:x1'.state≠ .busy:=by
          intro e
          have:=g3.st
          rw [e]at this
          exact hst this.symm
         have st2:=wA (P:=P) (F:=F) (tmps:=tmps) (dfs:=mark++dfs) (k:=k) (cs:=aJ rcC cs0) g2 hnb
         obtain⟨a1,a2⟩:=mj k1 g1 (by intro t sz el e;rw [hx1]at e;cases e) (oO (o:=.loop {x1' with state:=.exhausted}) g2)
         have sr4:=sr3.step a1 (a2.le k1)
         have e4:=Ext.trans e2 (Ext.trans k2 a2)
         have st3: ∀td,(x1'.pending.map Item.code).toList++k=td->step P (lone (F.mk' tmps (mark++dfs) (.endRangeFunc c::k)) (aJ rcC cs0) w3)=
          .next (lone (F.mk' tmps (mark++dfs) td) (aJ rcC cs0) (setW w3 c (.loop {x1' with state:=.exhausted}))):=by
          intro td e;rw [<-e];exact st2
         split at hl
         next hpn=>
          cases hl
          exact⟨_,_,tmps,mark++dfs,rcC,sr4,e4,Steps.trans sfin (.one (st3 _ (by rw [g3.pending,hpn];rfl)))⟩
         next id hpn=>
          cases hl
          exact⟨_,_,tmps,mark++dfs,rcC,sr4,e4,k,rfl,Steps.trans sfin (.one (st3 _ (by rw [g3.pending,hpn];rfl)))⟩
         next hpn=>
          cases hl
          exact⟨_,_,tmps,mark++dfs,rcC,sr4,e4,k,Steps.trans sfin (.one (st3 _ (by rw [g3.pending,hpn];rfl)))⟩
         next=>cases hl
       next=>cases hl
 next=>cases hl

include ok hc hcode in
theorem um (hdraw:DrawOk E P R):ip P (aD E R):=by
 intro cx c
 induction c with
 | skip=>
   intro l h x l' h' hl mu w F cs0 tmps dfs rcC k todo s ht
   rcases ht with rfl|⟨b,hb,_⟩
   . cases hl;exact⟨mu,w,tmps,dfs,rcC,s,Ext.refl mu _ w s.hr,.one st_skip⟩
   . cases hb
 | label n=>
   intro l h x l' h' hl mu w F cs0 tmps dfs rcC k todo s ht
   rcases ht with rfl|⟨b,hb,_⟩
   . cases hl;exact⟨mu,w,tmps,dfs,rcC,s,Ext.refl mu _ w s.hr,.one st_label⟩
   . cases hb
 | region id ops draw=>
   intro l h x l' h' hl mu w F cs0 tmps dfs rcC k todo s ht
   rcases ht with rfl|⟨b,hb,_⟩
   . simp only [aD]at hl
     cases draw with
     | false=>
       simp only [cond_false]at hl
       have r:=evOps_sim ok hc hcode (ops:=ops) (k:=k) ops.toList 0 _ _ _ _ _ _ _ _ _ _ rfl s hl
       rw [Array.length_toList,<-List.range_eq_range']at r
       exact r.pre (.one st_region) (Ext.refl mu h w s.hr)
     | true=>
       simp only [cond_true]at hl
       cases hp:plan E (dQ ops.toList)with
       |none=>rw [hp]at hl;cases hl
       | some q=>
         obtain⟨q,ps⟩:=q
         rw [hp]at hl
         simp only []at hl
         cases he:dB E R (dQ ops.toList) q (dQ ops.toList) 0 l h []with
         |none=>rw [he]at hl;cases hl
         | some q3=>
           obtain⟨l1,h1,tr⟩:=q3
           rw [he]at hl
           simp only []at hl
           cases hpo:dK tr ps with
           |false=>rw [hpo]at hl;cases hl
           | true=>
             rw [hpo]at hl
             cases hl
             exact hdraw cx id ops l h _ _ q ps tr hp he hpo mu w F cs0 tmps dfs rcC k s
   . cases hb
 | seq a b iha ihb=>
   intro l h x l' h' hl mu w F cs0 tmps dfs rcC k todo s ht
   rcases ht with rfl|⟨b,hb,_⟩
   . simp only [aD]at hl
     cases ha:aD E R cx a l h with
     |none=>rw [ha]at hl;cases hl
     | some q=>
       obtain⟨x1,l1,h1⟩:=q
       rw [ha]at hl
       obtain⟨mu1,w1,tmps1,dfs1,rc1,s1,e1,r1⟩:=iha _ _ _ _ _ ha mu w F cs0 tmps dfs rcC (.code b::k) _ s (.inl rfl)
       have r1':=Reach.pre (.one st_seq) r1
       cases x1 with
       | normal=>
         exact Sim.pre r1' e1 (ihb _ _ _ _ _ hl mu1 w1 F cs0 tmps1 dfs1 rc1 k _ s1 (.inl rfl))
       |exit id=>cases hl;exact⟨mu1,w1,tmps1,dfs1,rc1,s1,e1,r1'.out (fun id _=>rfl) (by simp)⟩
       |ret=>cases hl;exact⟨mu1,w1,tmps1,dfs1,rc1,s1,e1,r1'.out (fun id _=>rfl) (by simp)⟩
       |pan v=>cases hl;exact⟨mu1,w1,tmps1,dfs1,rc1,s1,e1,r1'.out (fun id _=>rfl) (by simp)⟩
   . cases hb
 | cond c a b iha ihb=>
   intro l h x l' h' hl mu w F cs0 tmps dfs rcC k todo s ht
   rcases ht with rfl|⟨b,hb,_⟩
   . simp only [aD]at hl
     have hv:=ev_rel s.regs c s.glob
     split at hl
     next t hc'=>
      rw [hc']at hv
      cases hev:cS tmps c<;>rw [hev]at hv<;>cases hv
      have hst:=st_cond (P:=P) (F:=F) (dfs:=dfs) (k:=k) (cs:=aJ rcC cs0) (w:=w) (a:=a) (b:=b) hev
      cases t with
      |true=>exact Sim.pre (.one hst) (Ext.refl mu h w s.hr) (iha _ _ _ _ _ hl mu w F cs0 tmps dfs rcC k _ s (.inl rfl))
      |false=>exact Sim.pre (.one hst) (Ext.refl mu h w s.hr) (ihb _ _ _ _ _ hl mu w F cs0 tmps dfs rcC k _ s (.inl rfl))
     next=>cases hl
   . cases hb
 | block id b ih=>
   intro l h x l' h' hl mu w F cs0 tmps dfs rcC k todo s ht
   rcases ht with rfl|⟨b,hb,_⟩
   . simp only [aD]at hl
     cases ha:aD E R cx b l h with
     |none=>rw [ha]at hl;cases hl
     | some q=>
       obtain⟨x1,l1,h1⟩:=q
       rw [ha]at hl
       obtain⟨mu1,w1,tmps1,dfs1,rc1,s1,e1,r1⟩:=ih _ _ _ _ _ ha mu w F cs0 tmps dfs rcC (.inBlock id::k) _ s (.inl rfl)
       have r1':=Reach.pre (.one st_block) r1
       cases x1 with
       |normal=>cases hl;exact⟨mu1,w1,tmps1,dfs1,rc1,s1,e1,Steps.trans r1' (.one xy)⟩
       | exit i=>
         simp only []at hl
         obtain⟨k0,hk0,r2⟩:=r1'
         cases hi:yd i id with
         | true=>
           have:i=id:=xW hi
           subst this
           rw [hi]at hl
           cases hl
           exact⟨mu1,w1,tmps1,dfs1,rc1,s1,e1,Steps.trans r2 (.one (st_exit (k':=k) (by rw [hk0];simp [exitTo])))⟩
         | false=>
           have hne:id≠i:=by intro e;subst e;rw [Nat.beq_refl]at hi;cases hi
           rw [hi]at hl
           cases hl
           exact⟨mu1,w1,tmps1,dfs1,rc1,s1,e1,k0,by rw [hk0];simp [exitTo,hne],r2⟩
       |ret=>cases hl;exact⟨mu1,w1,tmps1,dfs1,rc1,s1,e1,r1'⟩
       |pan v=>cases hl;exact⟨mu1,w1,tmps1,dfs1,rc1,s1,e1,r1'⟩
   . cases hb
 | loop b ih=>
   intro l h x l' h' hl mu w F cs0 tmps dfs rcC k todo s ht
   have hst:step P (lone (F.mk' tmps dfs todo) (aJ rcC cs0) w)=.next (lone (F.mk' tmps dfs (.code b:: .inLoop b::k)) (aJ rcC cs0) w):=by
    rcases ht with rfl|⟨b2,hb,rfl⟩
    . exact st_loop
    . cases hb;exact st_inLoop
   simp only [aD]at hl
   cases ha:aD E R cx b l h with
   |none=>rw [ha]at hl;cases hl
   | some q=>
     obtain⟨x1,l1,h1⟩:=q
     rw [ha]at hl
     obtain⟨mu1,w1,tmps1,dfs1,rc1,s1,e1,r1⟩:=ih _ _ _ _ _ ha mu w F cs0 tmps dfs rcC (.inLoop b::k) _ s (.inl rfl)
     have r1':=Reach.pre (.one hst) r1
     cases x1 with
     |normal=>exact Sim.pre r1' e1 (hcode _ _ _ _ _ _ _ hl mu1 w1 F cs0 tmps1 dfs1 rc1 k _ s1 (.inr ⟨b,rfl,rfl⟩))
     |exit id=>cases hl;exact⟨mu1,w1,tmps1,dfs1,rc1,s1,e1,r1'.out (fun id _=>rfl) (by simp)⟩
     |ret=>cases hl;exact⟨mu1,w1,tmps1,dfs1,rc1,s1,e1,r1'.out (fun id _=>rfl) (by simp)⟩
     |pan v=>cases hl;exact⟨mu1,w1,tmps1,dfs1,rc1,s1,e1,r1'.out (fun id _=>rfl) (by simp)⟩
 | rangeFunc f params assign body iha ihb=>
   intro l h x l' h' hl mu w F cs0 tmps dfs rcC k todo s ht
   rcases ht with rfl|⟨b,hb,_⟩
   . exact tM ok hc hl s
   . cases hb
 | exit id=>
   intro l h x l' h' hl mu w F cs0 tmps dfs rcC k todo s ht
   rcases ht with rfl|⟨b,hb,_⟩
   . cases hl;exact⟨mu,w,tmps,dfs,rcC,s,Ext.refl mu _ w s.hr,k,rfl,Steps.refl _ _⟩
   . cases hb
 | scope b ih=>
   intro l h x l' h' hl mu w F cs0 tmps dfs rcC k todo s ht
   rcases ht with rfl|⟨b,hb,_⟩
   . obtain⟨mu1,w1,tmps1,dfs1,rc1,s1,e1,r1⟩:=ih _ _ _ _ _ hl mu w F cs0 tmps dfs rcC (.inScope b::k) _ s (.inl rfl)
     have r1':=Reach.pre (.one st_scope) r1
     cases x with
     |normal=>exact⟨mu1,w1,tmps1,dfs1,rc1,s1,e1,Steps.trans r1' (.one xw)⟩
     |exit id=>exact⟨mu1,w1,tmps1,dfs1,rc1,s1,e1,r1'.out (fun id _=>rfl) (by simp)⟩
     |ret=>exact⟨mu1,w1,tmps1,dfs1,rc1,s1,e1,r1'.out (fun id _=>rfl) (by simp)⟩
     |pan v=>exact⟨mu1,w1,tmps1,dfs1,rc1,s1,e1,r1'.out (fun id _=>rfl) (by simp)⟩
   . cases hb
 |goto n=>intro l h x l' h' hl;cases hl
 | ret=>
   intro l h x l' h' hl mu w F cs0 tmps dfs rcC k todo s ht
   rcases ht with rfl|⟨b,hb,_⟩
   . cases hl;exact⟨mu,w,tmps,dfs,rcC,s,Ext.refl mu _ w s.hr,k,Steps.refl _ _⟩
   . cases hb
 |refuse m=>intro l h x l' h' hl;cases hl
end
end Go.Ab

namespace Go.Ab

theorem oN.hrel{w w':World}(k:oN w w'){mu:Mu}{h:Hp}(hh:aF mu h w):aF mu h w':=
 ⟨hh.sized,fun b c base top hm=>by
  obtain⟨x,o,h1,h2,h3⟩:=hh.blk b c base top hm
  refine⟨x,o,h1,?_,h3⟩
  rw [k.heap c (by
   rcases yg c w.heap.size with hc|hc
   . exact hc
   . rw [yc hc]at h2;cases h2)]
  exact h2,hh.dead,hh.inj,hh.lt⟩
theorem oN.ext{w w':World}(k:oN w w'){mu:Mu}{h:Hp}(hh:aF mu h w):Ext mu h w mu h w' where
 n:=yh _
 old:=fun _ _=>.inl rfl
 fresh:=fun b c base top hb hm=>absurd (hh.lt b (by rw [hm];simp)) (by omega)
 lo:=yh _
 same:=fun _ _ _=>rfl
 frame:=fun c hc _=>k.heap c hc
 ro:=fun b c base top t sz el hm hg=>by
  obtain⟨x,o,h1,h2,h3⟩:=hh.blk b c base top hm
  refine⟨k.heap c ?_,rfl,rfl⟩
  rcases yg c w.heap.size with hc|hc
  . exact hc
  . rw [yc hc]at h2;cases h2
 wsize:=k.size
 os:=k.os
 tape:=k.tape
 output:=k.output
 cover:=fun _ h1 h2=>absurd h2 (by omega)

def mX(mu:Mu):Option Value->FrameMode->Prop
 |none,M=>M=.returning
 |some v,M=> ∃v',M=.panicking [{v:=v',recovered:=false}]/\ao mu v v'
theorem mX.mono{mu mu':Mu}(h:Le mu mu'){m:Option Value}{M:FrameMode}(k:mX mu m M):mX mu' m M:=by
 cases m with
 |none=>exact k
 |some v=>obtain⟨v',a,b⟩:=k;exact⟨v',a,b.mono h⟩
def FC.un(F:FC)(tmps:Array Value)(dfs:List Deferred)(todo:List Item)(M:FrameMode):Frame:={F.mk' tmps dfs todo with mode:=M}

section
variable{P:Program}{F:FC}{tmps:Array Value}{dfs:List Deferred}{todo:List Item}{cs:List Frame}{w:World}
theorem uv{M:FrameMode}(hM:M≠ .run){c:Nat}{args:Array Value}{ds2:List Deferred}(hw:w.heap[c]? =some (.deferred (some ds2))):
 step P (lone (F.un tmps ({target:=.collected c,args}::dfs) todo M) cs w)=.next (lone (F.un tmps (ds2++dfs) todo M) cs (setW w c (.deferred none))):=by
 refine step_lone_go ?_
 have h1:=pY (P:=P) hw
 cases M with
 |run=>exact absurd rfl hM
 |returning=>simp [stepG,unwind,FC.un,FC.mk',h1]
 |panicking ch=>simp [stepG,unwind,FC.un,FC.mk',h1]
theorem mM{M:FrameMode}(hM:M≠ .run){f:FuncId}{cap args:Array Value}(hf: ∀a w,(callFunc f a).run P w=.ok (.enter f a) w):
 step P (lone (F.un tmps ({target:=.fn (.func f) cap,args}::dfs) todo M) cs w)=.next (lone (Frame.enter P f (args++cap) .deferred) (F.un tmps dfs todo M::cs) w):=by
 refine step_lone_go ?_
 cases M with
 |run=>exact absurd rfl hM
 |returning=>simp [stepG,unwind,callDeferred,FC.un,FC.mk',invoke,hf]
 |panicking ch=>simp [stepG,unwind,callDeferred,FC.un,FC.mk',invoke,hf]
theorem lj{fr c:Frame}{v:Value}(h:mT P fr w .deferred v)(hm:c.mode=.returning\/ ∃v',c.mode=.panicking [{v:=v',recovered:=false}]):
 step P (lone fr (c::cs) w)=.next (lone c cs w):=by
 obtain⟨fn,hf,hr⟩:=h.res
 refine step_lone_go ?_
 rcases hm with hm|⟨v',hm⟩<;>simp [stepG,unwind,doReturn,h.mode,h.defers,h.kind,hf,hr,hm]
theorem oW{fr c:Frame}{v v':Value}(h:mT P fr w .deferred v)(hm:c.mode=.panicking [{v:=v',recovered:=true}]):
 step P (lone fr (c::cs) w)=.next (lone {c with mode:=.returning} cs w):=by
 obtain⟨fn,hf,hr⟩:=h.res
 exact step_lone_go (by simp [stepG,unwind,doReturn,h.mode,h.defers,h.kind,hf,hr,hm])
end

section
variable{E:Env}{P:Program}(ok:EOk E P){R:Rec}(hc:fG E P R.call)(hcode:ip P R.code)

include ok hc in
theorem jg {F : FC} {tmps:Array Value} {todo:List Item} {cs:List Frame}: ∀(ds:List Deferred) (m m':Option Value) (h h':Hp),bH R ds m h=some (m',h')->
 ∀ (mu:Mu) (w:World) (dfs:List Deferred) (M:FrameMode),aF mu h w->jE mu->DL mu ds dfs->mX mu m M->
   ∃mu' w' M',aF mu' h' w'/\Ext mu h w mu' h' w'/\mX mu' m' M'/\Steps P (lone (F.un tmps dfs todo M) cs w) (lone (F.un tmps [] todo M') cs w')
 | [],m,m',h,h',hl,mu,w,dfs,M,hh,hg,hd,hm=>by
   cases hl
   rw [hd.nil_left]
   exact⟨mu,w,M,hh,Ext.refl mu h w hh,hm,Steps.refl _ _⟩
 | d :: ds, m,m',h,h',hl,mu,w,dfs,M,hh,hg,hd,hm=>by
   obtain⟨d',dfs',rfl,h1,h2⟩:=hd.cons_left
   have hM:M≠ .run:=by
    intro e;subst e
    cases m with
    |none=>cases hm
    |some v=>obtain⟨_,a,_⟩:=hm;cases a
   obtain⟨tg',args'⟩:=d'
   unfold bH at hl
   split at hl
   next b hb=>
    split at hl
    next hget=>
     unfold jR at h1
     rw [hb]at h1
     obtain⟨c,hc1,hp⟩:=h1
     simp only []at hc1
     subst hc1
     obtain⟨top,g1,g2⟩:=dead_at hh hp hget
     obtain⟨a1,a2⟩:=mj hh g1 (by intro t sz el e;rw [hget]at e;cases e) (oO (o:=.deferred none) g2)
     have le:=a2.le hh
     obtain⟨mu',w',M',k1,k2,k3,k4⟩:=jg ds m m' _ h' hl _ _ dfs' M a1 (hg.mono le) (LR.mono h2 fun _ _=>jR.mono le) (hm.mono le)
     exact⟨mu',w',M',k1,Ext.trans a2 k2,k3,.head (uv hM g2) k4⟩
    next=>cases hl
   next f cap hb=>
    unfold jR at h1
    rw [hb]at h1
    obtain⟨cap',hc1,hcap,hargs⟩:=h1
    simp only []at hc1 hargs
    subst hc1
    have va:VL mu (d.args.toList++cap.toList) (args'++cap').toList:=by
     rw [yo];exact LR.append hargs hcap
    cases m with
    | none=>
      have hMr:M=.returning:=hm
      subst hMr
      simp only []at hl
      cases hcall:R.call f (d.args.toList++cap.toList) none h with
      |none=>rw [hcall]at hl;cases hl
      | some q=>
        obtain⟨out,rc,h2'⟩:=q
        rw [hcall]at hl
        obtain⟨⟨fn,hfn,hbody⟩,hs⟩:=hc _ _ _ _ _ _ _ hcall
        have st1:=mM (P:=P) (F:=F) (tmps:=tmps) (dfs:=dfs') (todo:=todo) (cs:=cs) (w:=w) hM (cap:=cap') (args:=args') (fun a w=>ok.call f fn a w hfn hbody)
        obtain⟨mu1,w1,rcC1,fr,k1,k2,k3,k4,k5,k6,_⟩:=hs mu w (args'++cap') none (F.un tmps dfs' todo .returning::cs) .deferred hh hg va trivial (.inr ⟨rfl,_,_,rfl,rfl⟩)
        cases out with
        |pan v=>cases hl
        | ret v=>
          obtain⟨v',l1,l2⟩:=k6
          simp only []at hl
          cases rc with
          |some y=>cases hl
          | none=>
            cases rcC1 with
            |some y=>exact k3.elim
            | none=>
              simp only []at hl
              have le:=k2.le hh
              obtain⟨mu',w',M',g1,g2,g3,g4⟩:=jg ds none m' _ h' hl mu1 w1 dfs' .returning k1 (hg.mono le) (LR.mono h2 fun _ _=>jR.mono le) rfl
              exact⟨mu',w',M',g1,Ext.trans k2 g2,g3,Steps.trans (.one st1) (Steps.trans k5 (.head (lj l1 (.inl rfl)) g4))⟩
    | some pv =>
      obtain⟨pv',rfl,hpv⟩:=hm
      simp only []at hl
      cases hcall:R.call f (d.args.toList++cap.toList) (some (pv,false)) h with
      |none=>rw [hcall]at hl;cases hl
      | some q=>
        obtain⟨out,rc,h2'⟩:=q
        rw [hcall]at hl
        obtain⟨⟨fn,hfn,hbody⟩,hs⟩:=hc _ _ _ _ _ _ _ hcall
        have st1:=mM (P:=P) (F:=F) (tmps:=tmps) (dfs:=dfs') (todo:=todo) (cs:=cs) (w:=w) hM (cap:=cap') (args:=args') (fun a w=>ok.call f fn a w hfn hbody)
        obtain⟨mu1,w1,rcC1,fr,k1,k2,k3,k4,k5,k6,_⟩:=hs mu w (args'++cap') (some (pv',false)) (F.un tmps dfs' todo (.panicking [{v:=pv',recovered:=false}])::cs) .deferred hh hg va ⟨rfl,hpv⟩ ⟨rfl,by simp⟩
        cases out with
        |pan v=>cases hl
        | ret v =>
          obtain⟨v',l1,l2⟩:=k6
          simp only []at hl
          have le:=k2.le hh
          cases rc with
          |none=>cases hl
          | some y=>
            obtain⟨v0,b⟩:=y
            cases rcC1 with
            |none=>exact k3.elim
            | some z=>
              obtain⟨v0',b'⟩:=z
              obtain⟨rfl,hv0⟩:=k3
              cases b with
              | true=>
                simp only []at hl
                obtain⟨mu',w',M',g1,g2,g3,g4⟩:=jg ds none m' _ h' hl mu1 w1 dfs' .returning k1 (hg.mono le) (LR.mono h2 fun _ _=>jR.mono le) rfl
                refine⟨mu',w',M',g1,Ext.trans k2 g2,g3,Steps.trans (.one st1) (Steps.trans k5 (.head (oW l1 rfl) g4))⟩
              | false=>
                simp only []at hl
                obtain⟨mu',w',M',g1,g2,g3,g4⟩:=jg ds (some v0) m' _ h' hl mu1 w1 dfs' (.panicking [{v:=v0',recovered:=false}]) k1 (hg.mono le) (LR.mono h2 fun _ _=>jR.mono le) ⟨v0',rfl,hv0⟩
                refine⟨mu',w',M',g1,Ext.trans k2 g2,g3,Steps.trans (.one st1) (Steps.trans k5 (.head (lj l1 (.inr ⟨v0',rfl⟩)) g4))⟩
   next=>cases hl

include ok in
theorem wd {mu:Mu} {h:Hp} {w:World} (hh:aF mu h w) {t:Tr Value} {n:Nat} {tmps:Array Value} (hr:gS mu t n tmps): ∀(rs:List ResultVar) (vs:List Value),aR E t h rs=some vs->
 ∃ vs',(rs.mapM (fun
   | .tmp t=>pure (tmps.getD t undef)
   | .cell a t=>do loadVar t (<-asAddr (tmps.getD a undef)):ResultVar->Sem Value)).run P w=.ok vs' w/\VL mu vs vs':=by
 have hreg: ∀a,ao mu (match t.get a with|some v=>v|none=>.tuple #[]) (tmps.getD a undef):=by
  intro a
  cases hv:t.get a with
  | none=>
    have:n<=a:=by
     rcases yg a n with h1|h1
     . obtain⟨v,h2⟩:=Tr.get_some hr.sized h1;rw [h2]at hv;cases hv
     . exact h1
    rw [yb,yc (by rw [hr.size];exact this)]
    exact .tuple rfl (by intro i v v' hv;simp at hv)
  | some v=>
    obtain⟨v',h1,h2⟩:=hr.get a v hv
    rw [yb,h1];exact h2
 intro rs
 induction rs with
 |nil=>intro vs hl;cases hl;exact⟨[],by simp,LR.nil⟩
 | cons r rs ih=>
   intro vs hl
   cases r with
   | tmp a=>
     simp only [aR]at hl
     cases hq:aR E t h rs with
     |none=>rw [hq]at hl;cases hl
     | some l=>
       rw [hq]at hl
       cases hl
       obtain⟨vs',g1,g2⟩:=ih l hq
       refine⟨tmps.getD a undef::vs',?_,LR.cons (hreg a) g2⟩
       simp only [List.mapM_cons,Sem.run_bind,Sem.run_pure,Result.andThen_ok,g1]
   | cell a ty=>
     simp only [aR]at hl
     split at hl
     next=>cases hl
     next v hv=>
      cases hq:aR E t h rs with
      |none=>rw [hq]at hl;cases hl
      | some l=>
        rw [hq]at hl
        cases hl
        obtain⟨vs',g1,g2⟩:=ih l hq
        obtain⟨v',k1,k2⟩:=su (P:=P) ok hh hv (hreg a)
        refine⟨v'::vs',?_,LR.cons k2 g2⟩
        have ha: ∃ad,tmps.getD a undef=.pointer (some ad):=by
         have key: ∀x y,dP E h ty x=some v->ao mu x y-> ∃ad,y=.pointer (some ad):=by
          intro x y hv hx
          unfold dP at hv
          cases hx<;>(try simp only []at hv)<;>first|(cases hv;done)|exact⟨_,rfl⟩
         exact key _ _ hv (hreg a)
        obtain⟨ad,ha⟩:=ha
        have ha2:(asAddr (tmps.getD a undef)).run P w=.ok ad w:=by rw [ha];simp [asAddr]
        rw [ha]at k1
        simp only [Instr.loadAt,Instr.sureAddr,Sem.run_bind,Sem.run_pure,Result.andThen_ok]at k1
        simp only [List.mapM_cons,Sem.run_bind,ha2,Sem.run_pure,Result.andThen_ok,k1,g1]

include ok in
theorem we{mu:Mu}{h:Hp}{w:World}(hh:aF mu h w){t:Tr Value}{n:Nat}{tmps:Array Value}(hr:gS mu t n tmps){fn:Func}{vs:List Value}(hl:aR E t h fn.results.toList=some vs):
 ∃v',(results fn tmps).run P w=.ok v' w/\ao mu (ab vs) v':=by
 obtain⟨vs',g1,g2⟩:=wd (P:=P) ok hh hr _ _ hl
 have h1:(results fn tmps).run P w=.ok (if h:vs'.toArray.size=1 then vs'.toArray[0]else .tuple vs'.toArray) w:=by
  unfold results
  rw [Array.mapM_eq_mapM_toList]
  simp only [map_eq_pure_bind,Sem.run_bind]
  refine(congrArg (fun q:Result (List Value)=>(q.andThen fun a w'=>(pure a.toArray:Sem (Array Value)).run P w').andThen
   fun a w'=>(pure (if h:a.size=1 then a[0]else .tuple a):Sem Value).run P w') g1).trans ?_
  simp
 refine⟨_,h1,?_⟩
 cases vs with
 | nil=>
   rw [g2.nil_left]
   exact .tuple rfl (by intro i v v' hv;simp at hv)
 | cons v r=>
   obtain⟨v',r',rfl,k1,k2⟩:=g2.cons_left
   cases r with
   | nil=>
     rw [k2.nil_left]
     simpa [ab]using k1
   | cons v2 r2=>
     obtain⟨v2',r2',rfl,k3,k4⟩:=k2.cons_left
     simp only [ab,List.size_toArray,yf]
     rw [dif_neg (by omega)]
     exact .tuple (by simpa using k4.1) (fun i u u' hu hu'=>g2.2 i u u' (by simpa using hu) (by simpa using hu'))

include ok hc hcode in
theorem tQ : fG E P (iR E R):=by
 intro g args rc h o rc' h' hl
 unfold iR at hl
 cases hfn:E.fn g with
 |none=>rw [hfn]at hl;cases hl
 | some fn =>
   rw [hfn]at hl
   simp only []at hl
   cases hb:fn.body with
   |none=>rw [hb]at hl;cases hl
   | some body =>
     rw [hb]at hl
     simp only []at hl
     refine⟨⟨fn,rfl,by rw [hb];rfl⟩,?_⟩
     intro mu w args' rcC cs0 kind hh hg ha hrc hko
     have hP:=ok.fn g fn hfn
     cases hle:Nat.ble args.length fn.ntmps with
     |false=>rw [hle]at hl;cases hl
     | true =>
       rw [hle]at hl
       simp only [cond_true]at hl
       have hle':args.length<=fn.ntmps:=Nat.le_of_ble_eq_true hle
       have hkind:kind=.normal\/kind=.deferred:=by
        cases rcC with
        |none=>rcases hko with a|a;exact .inl a;exact .inr a.1
        |some y=>exact .inr hko.1
       let F:FC:=⟨g,kind,none⟩
       have hent:Frame.enter P g args' kind=F.mk' (args'++ye (fn.ntmps-args'.size) undef) [] [.code body]:=by
        simp [Frame.enter,hP,hb,FC.mk',F]
       have hsz:args.length=args'.size:=by rw [ha.1];simp
       have hregs:gS mu ((Tr.blank (.tuple #[]) fn.ntmps fn.ntmps).setAll 0 args) fn.ntmps (args'++ye (fn.ntmps-args'.size) undef):=by
        refine⟨by simp [hsz.symm];omega,Tr.sized_setAll 0 args (Tr.sized_blank _ _ _ (yh _)),fun i v hv=>?_⟩
        rw [Tr.get_setAll _ 0 args fn.ntmps (Tr.sized_blank _ _ _ (yh _)) (by omega)]at hv
        by_cases hi:i<args.length
        . rw [if_pos ⟨Nat.zero_le _,by omega⟩]at hv
          obtain⟨v',g1,g2⟩:=ha.get (i:=i) (by simpa using hv)
          exact⟨v',by rw [Array.getElem?_append_left (by omega)];simpa using g1,g2⟩
        . rw [if_neg (by omega),Tr.get_blank _ _ _ (yh _)]at hv
          split at hv
          . cases hv
            refine⟨undef,?_,.tuple rfl (by intro i v v' hv;simp at hv)⟩
            rw [Array.getElem?_append_right (by omega)]
            rw [Array.getElem?_replicate,if_pos (by omega)]
          . cases hv
       have sr:SR P ⟨g,fn.ntmps,none⟩ ⟨(Tr.blank (.tuple #[]) fn.ntmps fn.ntmps).setAll 0 args,[],rc⟩ h mu w F cs0 (args'++ye (fn.ntmps-args'.size) undef) [] rcC:=
        ⟨hh,hg,hregs,LR.nil,hrc,hko,rfl,trivial,fun e=>absurd rfl e,by show(P.funcs[g]?).isSome=true;rw [hP];rfl⟩
       rw [hent]
       cases hcd:R.code ⟨g,fn.ntmps,none⟩ body ⟨(Tr.blank (.tuple #[]) fn.ntmps fn.ntmps).setAll 0 args,[],rc⟩ h with
       |none=>rw [hcd]at hl;cases hl
       | some q =>
         obtain⟨x,l1,h1⟩:=q
         rw [hcd]at hl
         obtain⟨mu1,w1,tmps1,dfs1,rcC1,s1,e1,r1⟩:=hcode _ _ _ _ _ _ _ hcd mu w F cs0 _ [] rcC [] [.code body] sr (.inl rfl)
         have fin: ∀{tmps2:Array Value} {todo:List Item} {mu2:Mu} {h2:Hp} {w2:World} {vs:List Value},aF mu2 h2 w2->gS mu2 l1.regs fn.ntmps tmps2->aR E l1.regs h2 fn.results.toList=some vs->
          ∃v',mT P (F.un tmps2 [] todo .returning) w2 kind v'/\ao mu2 (ab vs) v':=by
          intro tmps2 todo mu2 h2 w2 vs hh2 hr2 hrs
          obtain⟨v',g1,g2⟩:=we (P:=P) ok hh2 hr2 hrs
          exact⟨v',⟨rfl,rfl,rfl,fn,hP,g1⟩,g2⟩
         have usual: ∀{todo:List Item},Steps P (lone (F.mk' (args'++ye (fn.ntmps-args'.size) undef) [] [.code body]) (aJ rcC cs0) w) (lone (F.mk' tmps1 dfs1 todo) (aJ rcC1 cs0) w1)->(todo=[]\/ ∃k0,todo=.code .ret::k0)->
          (match bH R l1.dfs none h1 with
            | some (none,h'')=>match aR E l1.regs h'' fn.results.toList with
              |none=>none
              |some vs=>some (Out.ret (ab vs),l1.rc,h'')
            |_=>none)=some (o,rc',h')->
          ∃ mu' w' rcC' fr,aF mu' h' w'/\Ext mu h w mu' h' w'/\mr mu' rc' rcC'/\KOk kind cs0 rcC'/\
            Steps P (lone (F.mk' (args'++ye (fn.ntmps-args'.size) undef) [] [.code body]) (aJ rcC cs0) w) (lone fr (aJ rcC' cs0) w')/\
            CallEnd P fr w' kind mu' o/\fr.fn=g:=by
          intro todo st ht hl
          cases hu:bH R l1.dfs none h1 with
          |none=>rw [hu]at hl;cases hl
          | some q2=>
            obtain⟨m2,h2⟩:=q2
            rw [hu]at hl
            cases m2 with
            |some v=>cases hl
            | none=>
              simp only []at hl
              obtain⟨mu2,w2,M2,k1,k2,k3,k4⟩:=jg ok hc (F:=F) (tmps:=tmps1) (todo:=todo) (cs:=aJ rcC1 cs0) _ _ _ _ _ hu mu1 w1 dfs1 .returning s1.hr s1.glob s1.dfs rfl
              have hM2:M2=.returning:=k3
              subst hM2
              have le:=k2.le s1.hr
              cases hrs:aR E l1.regs h2 fn.results.toList with
              |none=>rw [hrs]at hl;cases hl
              | some vs=>
                rw [hrs]at hl
                cases hl
                have s2:=s1.step k1 le
                obtain⟨v',f1,f2⟩:=fin (todo:=todo) k1 s2.regs hrs
                exact⟨mu2,w2,rcC1,_,k1,Ext.trans e1 k2,s2.rc,s1.ko,Steps.trans st (.head (xl rfl ht) k4),⟨v',f1,f2⟩,rfl⟩
         cases x with
         |exit id=>cases hl
         |normal=>exact usual r1 (.inl rfl) hl
         |ret=>obtain⟨k0,r2⟩:=r1;exact usual r2 (.inr ⟨k0,rfl⟩) hl
         | pan v =>
           obtain⟨v',todo,hv,r2⟩:=r1
           simp only []at hl
           cases hu:bH R l1.dfs (some v) h1 with
           |none=>rw [hu]at hl;cases hl
           | some q2=>
             obtain⟨m2,h2⟩:=q2
             rw [hu]at hl
             obtain⟨mu2,w2,M2,k1,k2,k3,k4⟩:=jg ok hc (F:=F) (tmps:=tmps1) (todo:=todo) (cs:=aJ rcC1 cs0) _ _ _ _ _ hu mu1 w1 dfs1 (.panicking [{v:=v',recovered:=false}]) s1.hr s1.glob s1.dfs ⟨v',rfl,hv⟩
             have le:=k2.le s1.hr
             have s2:=s1.step k1 le
             cases m2 with
             | some v2=>
               cases hl
               obtain⟨v2',rfl,hv2⟩:=k3
               exact⟨mu2,w2,rcC1,_,k1,Ext.trans e1 k2,s2.rc,s1.ko,Steps.trans r2 k4,⟨v2',⟨rfl,rfl,rfl,fn,hP⟩,hv2⟩,rfl⟩
             | none=>
               have hM2:M2=.returning:=k3
               subst hM2
               simp only []at hl
               cases hrs:aR E l1.regs h2 fn.results.toList with
               |none=>rw [hrs]at hl;cases hl
               | some vs=>
                 rw [hrs]at hl
                 cases hl
                 obtain⟨v2',f1,f2⟩:=fin (todo:=todo) k1 s2.regs hrs
                 exact⟨mu2,w2,rcC1,_,k1,Ext.trans e1 k2,s2.rc,s1.ko,Steps.trans r2 k4,⟨v2',f1,f2⟩,rfl⟩

include ok hc hcode in
theorem tT:fG E P (gG E R):=by
 intro g args rc h o rc' h' hl
 unfold gG at hl
 cases ho:E.orc g args with
 |none=>rw [ho]at hl;exact tQ ok hc hcode g args rc h o rc' h' hl
 | some v =>
   rw [ho]at hl
   cases rc with
   |some x=>cases hl
   | none =>
     cases hl
     obtain⟨hfn,ha,hv,hs⟩:=ok.orc g args v ho
     refine⟨hfn,?_⟩
     intro mu w args' rcC cs0 kind hh hg hva hrc hko
     cases rcC with
     |some x=>exact hrc.elim
     | none=>
       have hargs:args'=⟨args⟩:=by
        apply Array.ext'
        refine List.ext_getElem? fun i=>?_
        obtain⟨hlen,hget⟩:=hva
        rcases yg i args.length with hi|hi
        . have hi':i<args'.toList.length:=by omega
          have h1:=hget i args[i] args'.toList[i] (xX hi) (xX hi')
          have h2:bZ args[i]=true:=List.all_eq_true.1 ha _ (List.getElem_mem hi)
          rw [xX hi',ao.const_eq h2 h1]
          exact(xX hi).symm
        . rw [yl hi,yl (by omega)]
       subst hargs
       obtain⟨w',fr,k1,k2,k3,k4⟩:=hs w cs0 kind hko
       exact⟨mu,w',none,fr,k1.hrel hh,k1.ext hh,trivial,hko,k2,⟨v,k3,ao.const mu hv⟩,k4⟩
end
end Go.Ab

namespace Go.Ab

theorem run_ok{E:Env}{P:Program}(ok:EOk E P)(hd: ∀R,fG E P R.call->ip P R.code->DrawOk E P R): ∀n,fG E P (run E n).call/\ip P (run E n).code
 | 0=>by
   constructor
   . intro g args rc h o rc' h' hl;cases hl
   . intro cx c l h x l' h' hl;cases hl
 | n+1=>by
   obtain⟨h1,h2⟩:=run_ok ok hd n
   exact⟨tT ok h1 h2,um ok h1 h2 (hd _ h1 h2)⟩

noncomputable def hp0:Hp:={n:=16,t:=Tr.ofList (ym 16 .dead),lo:=16}
def mu0:Mu:=fun b=>if b<16 then .dead else .none
theorem hrel0(w:World):aF mu0 hp0 w:=by
 refine⟨?_,?_,?_,?_,?_⟩
 . have:=Tr.sized_ofList (ym 16 Blk.dead)
   rwa [List.length_replicate]at this
 . intro b c base top h
   unfold mu0 at h;split at h<;>cases h
 . intro b h
   unfold mu0 at h
   split at h
   next hb=>
    show(Tr.ofList (ym 16 Blk.dead)).get b=_
    rw [Tr.get_ofList,List.getElem?_replicate,if_pos hb]
   next=>cases h
 . intro b b' c base top base' top' h
   unfold mu0 at h;split at h<;>cases h
 . intro b h
   unfold mu0 at h
   split at h
   next hb=>exact hb
   next=>exact absurd rfl h
theorem glob0:jE mu0:=by
 intro g hg
 unfold dC mu0
 simp [hg]

end Go.Ab

namespace Go.Ab

theorem sQ{h h2:Hp}{b o n:Nat}(e:h2.get b=h.get b):h.load b o n=h2.load b o n:=by unfold Hp.load;rw [e]

theorem uW {E : Env} {op:Op} {ρ:Operand->Value} (hc:cls E op=0\/cls E op=1):
 ∃f:Hp->Option Value,(∀h,aop E ρ h op=bO h (f h))/\(cls E op=0-> ∀h h2,f h=f h2)/\(∀h h2,(∀b,touch ρ op=some b->h2.get b=h.get b)->f h=f h2):=by
 have pure_:(∀h,aop E ρ h op=bO h (pop E ρ op))-> ∃f:Hp->Option Value,(∀h,aop E ρ h op=bO h (f h))/\(cls E op=0-> ∀h h2,f h=f h2)/\(∀h h2,(∀b,touch ρ op=some b->h2.get b=h.get b)->f h=f h2):=
  fun h=>⟨fun _=>pop E ρ op,h,fun _ _ _=>rfl,fun _ _ _=>rfl⟩
 cases op
 case load t a=>
  refine⟨fun h=>dP E h t (ρ a),fun _=>rfl,fun h0=>by simp [cls]at h0,fun h h2 ht=>?_⟩
  show dP E h t (ρ a)=dP E h2 t (ρ a)
  unfold dP
  unfold touch at ht
  simp only []at ht
  split at ht
  next x hx=>
   rw [hx];simp only []
   have e: ∀o n,h.load x.block o n=h2.load x.block o n:=fun o n=>sQ (ht _ rfl)
   simp only [e]
  next hx=>cases hr:ρ a<;>rw [hr]at hx<;>(try rfl);rename_i p;cases p<;>first|rfl|exact absurd rfl (hx _)
 case lookup t m k b=>
  refine⟨fun h=>dA E h t (ρ m) (ρ k) b,fun _=>rfl,fun h0=>by simp [cls]at h0,fun h h2 ht=>?_⟩
  show dA E h t (ρ m) (ρ k) b=dA E h2 t (ρ m) (ρ k) b
  unfold touch at ht
  unfold dA
  simp only []at ht
  cases hr:ρ m<;>rw [hr]at ht<;>(try rfl)
  rename_i r
  cases r with
  |none=>rfl
  |some r=>simp only []at ht⊢;rw [ht r rfl]
 case convert src dst x=>
  have hkind:cls E (.convert src dst x)=0-> ∀p,bU E src dst=some p->p.1=0:=by
   intro h0 p hp
   unfold cls at h0
   unfold bU at hp
   simp only []at h0
   cases hs:E.und src with
   |none=>rw [hs]at hp;cases hp
   | some d=>
     rw [hs]at hp h0
     cases d<;>(try simp only []at hp h0)<;>(try (cases hp;rfl))<;>(try (cases h0;done))
     cases hd:E.und dst with
     |none=>rw [hd]at hp;cases hp
     |some d2=>rw [hd]at hp h0;cases d2<;>(try simp only []at hp h0)<;>(try (cases hp;rfl))<;>(try (cases h0;done))
  have hkind1:cls E (.convert src dst x)=1-> ∀p,bU E src dst=some p->p.1=0\/p.1=1:=by
   intro h0 p hp
   unfold cls at h0
   unfold bU at hp
   simp only []at h0
   cases hs:E.und src with
   |none=>rw [hs]at hp;cases hp
   | some d=>
     rw [hs]at hp h0
     cases d<;>(try simp only []at hp h0)<;>(try (cases h0;done))<;>(try (cases hp;exact .inl rfl))
     . cases hd:E.und dst with
       |none=>rw [hd]at hp;cases hp
       |some d2=>rw [hd]at hp h0;cases d2<;>(try simp only []at hp h0)<;>(try (cases h0;done))<;>(try (cases hp;exact .inl rfl))
     . split at hp
       . split at hp
         . cases hp;exact .inr rfl
         . cases hp
       . cases hp
  refine⟨fun h=>match bU E src dst with
   |some (0,_)=>jh E dst (ρ x)
   |some (1,_)=>strOf h (ρ x)
   |_=>none,fun h=>?_,fun h0 h h2=>?_,fun h h2 ht=>?_⟩
  . show cv (jd E h src dst (ρ x))=bO h _
    unfold jd
    cases hk:bU E src dst with
    |none=>rfl
    | some p=>
      obtain⟨n,e⟩:=p
      have h01:n=0\/n=1:=by
       rcases hc with h0|h0
       . exact .inl (hkind h0 _ hk)
       . exact hkind1 h0 _ hk
      rcases h01 with rfl|rfl
      . simp only [];cases jh E dst (ρ x)<;>rfl
      . simp only [];cases strOf h (ρ x)<;>rfl
  . cases hk:bU E src dst with
    |none=>simp only [hk]
    | some p=>
      obtain⟨n,e⟩:=p
      have:n=0:=hkind h0 _ hk
      subst this
      simp only [hk]
  . cases hk:bU E src dst with
    |none=>simp only [hk]
    | some p=>
      obtain⟨n,e⟩:=p
      simp only [hk]
      match n with
      |0=>rfl
      | 1=>
        show strOf h (ρ x)=strOf h2 (ρ x)
        unfold touch at ht
        simp only []at ht
        unfold strOf
        cases hr:ρ x<;>rw [hr]at ht<;>(try rfl)
        rename_i a l c
        cases a with
        |none=>rfl
        |some a=>simp only []at ht⊢;rw [sQ (ht _ rfl)]
      |n+2=>rfl
 case call c =>
  cases hcc:c.callee with
  |value f=>simp [cls,hcc]at hc
  |invoke r n=>simp [cls,hcc]at hc
  | builtin b =>
    cases b<;>(try (simp [cls,hcc]at hc;done))
    case len =>
     refine ⟨fun h=>match pop E ρ (.call c)with
      |some v=>some v
      | none => match c.args.toList with
        | x ::_=>match ρ x with
          | .map (some r)=>match h.get r with
            | some (.map es _)=>match c.argTypes.toList with
              | t::_=>match E.und t with
                |some (.map _ _)=>some (.int .i64 (.ofNat es.length))
                |_=>none
              |_=>none
            |_=>none
          |_=>none
        |_=>none,fun h=>?_,fun h0=>by simp [cls,hcc]at h0,fun h h2 ht=>?_⟩
     . simp only [aop,hcc]
       cases pop E ρ (.call c)with
       |some v=>rfl
       | none=>
         simp only []
         cases ha:c.args.toList with
         |nil=>rfl
         | cons x xs=>
           simp only []
           cases hr:ρ x<;>(try rfl)
           rename_i r
           cases r with
           |none=>rfl
           | some r=>
             simp only []
             cases hg:h.get r with
             |none=>rfl
             | some y=>
               cases y<;>(try rfl)
               cases htt:c.argTypes.toList with
               |nil=>rfl
               | cons t ts=>
                 simp only []
                 cases hu:E.und t with
                 |none=>rfl
                 |some d=>cases d<;>rfl
     . show _=_
       cases pop E ρ (.call c)with
       |some v=>rfl
       | none=>
         simp only []
         unfold touch at ht
         simp only []at ht
         cases ha:c.args.toList with
         |nil=>rfl
         | cons x xs=>
           rw [ha]at ht
           simp only []at ht⊢
           cases hr:ρ x<;>rw [hr]at ht<;>(try rfl)
           rename_i r
           cases r with
           |none=>rfl
           |some r=>simp only []at ht⊢;rw [ht r rfl]
    all_goals exact pure_ (fun h=>by simp only [aop,hcc])
 all_goals first
  |exact pure_ (fun _=>rfl)
  |(exfalso;simp [cls]at hc;done)

theorem bM{h:Hp}{b b':Nat}{x:Blk}(hne:b≠b'):(h.put b x).get b'=h.get b':=by
 rw [Hp.get_put,if_neg (fun e=>hne e.1)]
theorem nD{h:Hp}{b:Nat}{x:Blk}(hs:h.t.Sized h.n)(hb:b<h.n):(h.new x).get b=h.get b:=by
 rw [Hp.get_new h x hs,if_neg (by omega)]
theorem nX{h h1:Hp}{b o:Nat}{l:List Value}(hl:h.store b o l=some h1){b':Nat}(hne:b≠b'):h1.get b'=h.get b':=by
 unfold Hp.store at hl
 split at hl
 . cases hb:(_&&_&&_:Bool)<;>rw [hb]at hl
   . cases hl
   . cases hl;exact bM hne
 . cases hl
end Go.Ab

namespace Go.Ab

theorem kP{E:Env}{h:Hp}{t:TypeId}{m k:Value}{r:Nat}{es:List (Value×Value×Nat)}{c:Nat}{el:TypeId}(hm:jc E h t m k=some (r,es,c,el)):
 m=.map (some r)/\h.get r=some (.map es c)/\ ∃kt,E.und t=some (.map kt el)/\cu E kt k=true:=by
 unfold jc at hm
 split at hm
 next kt el' hu=>
  cases hf:cu E kt k with
  |false=>rw [hf]at hm;cases hm
  | true=>
    rw [hf]at hm
    simp only [cond_true]at hm
    split at hm
    next r'=>
     split at hm
     next es' c' hg=>cases hm;exact⟨rfl,hg,kt,hu,hf⟩
     next=>cases hm
    next=>cases hm
 next=>cases hm

theorem w_only {E : Env} {op:Op} {ρ:Operand->Value} {h h1:Hp} {nx:cR} (hs:h.t.Sized h.n) (hc:cls E op=2\/cls E op=5) (ha:aop E ρ h op=some (nx,h1)):
 ∀b,b<h.n->touch ρ op≠some b->h1.get b=h.get b:=by
 intro b hb ht
 have wv: ∀{r:Option (Hp×Value)},cv r=some (nx,h1)-> ∃v,r=some (h1,v):=by
  intro r hr
  cases r with
  |none=>cases hr
  |some q=>obtain⟨a,b⟩:=q;cases hr;exact⟨b,rfl⟩
 have wu: ∀{r:Option Hp},eH r=some (nx,h1)->r=some h1:=by
  intro r hr
  cases r with
  |none=>cases hr
  |some q=>cases hr;rfl
 cases op
 case store t a x=>
  have hl:=wu ha
  unfold gc at hl
  unfold touch at ht
  simp only []at ht
  split at hl
  next ad hx=>
   rw [hx]at ht
   simp only []at ht
   have hne:ad.block≠b:=fun e=>ht (by rw [e])
   split at hl
   next=>cases hl
   next n hn=>
    split at hl
    next=>cases hl
    next v hv=>
     cases hq:yd (ag (ρ x)).length n with
     |false=>rw [hq]at hl;cases hl
     |true=>rw [hq]at hl;exact nX hl hne
  next=>cases hl
 case mapUpdate t m k v=>
  have hl:=wu ha
  unfold iV at hl
  split at hl
  next=>cases hl
  next r es c el hm=>
   obtain⟨g1,_,_⟩:=kP hm
   have hne:r≠b:=by intro e;subst e;exact ht (by unfold touch;simp only [];rw [g1])
   split at hl
   next=>cases hl
   next=>cases hl;exact bM hne
   next=>cases hl;exact bM hne
 case insert t m k v=>
  have hl:=wu ha
  unfold iV at hl
  split at hl
  next=>cases hl
  next r es c el hm=>
   obtain⟨g1,_,_⟩:=kP hm
   have hne:r≠b:=by intro e;subst e;exact ht (by unfold touch;simp only [];rw [g1])
   split at hl
   next=>cases hl
   next=>cases hl;exact bM hne
   next=>cases hl;exact bM hne
 case mapEntry t m k=>
  obtain⟨v,hl⟩:=wv ha
  unfold iq at hl
  split at hl
  next=>cases hl
  next r es c el hm=>
   obtain⟨g1,_,_⟩:=kP hm
   have hne:r≠b:=by intro e;subst e;exact ht (by unfold touch;simp only [];rw [g1])
   split at hl
   next=>cases hl
   next=>cases hl;exact bM hne
   next=>
    split at hl
    next=>cases hl
    next=>cases hl;exact bM hne
 case entryStore t m s v=>
  have hl:=wu ha
  unfold jG at hl
  split at hl
  next r hr=>
   have hne:r≠b:=by intro e;subst e;exact ht (by unfold touch;simp only [];rw [hr])
   split at hl
   next es c hg=>
    split at hl
    next kd i hi=>
     split at hl
     next=>cases hl
     next n hn=>
      split at hl
      next=>cases hl
      next=>cases hl;exact bM hne
    next=>cases hl
   next=>cases hl
  next=>cases hl
 case call c =>
  cases hcc:c.callee with
  |value f=>simp [cls,hcc]at hc
  |invoke r n=>simp [cls,hcc]at hc
  | builtin bi =>
    cases bi<;>(try (simp [cls,hcc]at hc;done))
    case append =>
     simp only [aop,hcc]at ha
     split at ha
     next s x xs hargs =>
      obtain⟨v,hl⟩:=wv ha
      unfold c9 at hl
      split at hl
      next t tx ts =>
       split at hl
       next =>
        unfold jf at hl
        split at hl
        next e hu=>
         split at hl
         next=>cases hl
         next i hi =>
          split at hl
          next a len cap hsv=>
           have hne: ∀ad,a=some ad->ad.block≠b:=by
            intro ad e e2
            subst e
            exact ht (by unfold touch;simp only [];rw [hargs];simp only [];rw [hsv];simp only [];rw [e2])
           split at hl
           next=>cases hl
           next n new hsrc=>
            unfold ey at hl
            cases hq:Nat.ble (len+n) cap with
            | true=>
              rw [hq]at hl
              simp only [cond_true]at hl
              split at hl
              next=>cases hl;rfl
              next ad=>
               split at hl
               next=>cases hl;rfl
               next=>
                split at hl
                next=>cases hl
                next h2 hst=>cases hl;exact nX hst (hne _ rfl)
            | false =>
              rw [hq]at hl
              simp only [cond_false]at hl
              cases hq2:(Nat.ble ((len+n)*(i.bytes+1)) 70368744177664&&(yq 0 i.bytes))with
              |false=>rw [hq2]at hl;cases hl
              | true =>
                rw [hq2]at hl
                simp only [cond_true]at hl
                split at hl
                next=>cases hl
                next zs hz=>
                 cases hq3:yd zs.length i.size with
                 |false=>rw [hq3]at hl;cases hl
                 | true=>
                   rw [hq3]at hl
                   simp only [cond_true]at hl
                   unfold lz at hl
                   split at hl
                   next=>
                    cases hq4:yd len 0 with
                    |false=>rw [hq4]at hl;cases hl
                    |true=>rw [hq4]at hl;cases hl;exact nD hs hb
                   next ad=>
                    split at hl
                    next tr sz el md hg=>
                     split at hl
                     next=>cases hl
                     next t2 s2 hgr=>
                      split at hl
                      next k' hk'=>
                       cases hq4:(yd k' i.size&& !Nat.beq md 0&&new.all iK)with
                       |false=>rw [hq4]at hl;cases hl
                       | true=>
                         rw [hq4]at hl
                         cases hl
                         rw [nD (h:=h.put ad.block .dead) (Tr.sized_set _ _ hs) hb]
                         exact bM (hne _ rfl)
                      next=>cases hl;exact nD hs hb
                    next=>cases hl
          next=>cases hl
        next=>cases hl
       next=>cases hl
      next=>cases hl
     next=>cases ha
    case copy=>
     simp only [aop,hcc]at ha
     split at ha
     next s x xs hargs=>
      obtain⟨v,hl⟩:=wv ha
      unfold copyV at hl
      split at hl
      next t ts=>
       split at hl
       next e hu=>
        split at hl
        next=>cases hl
        next k hk=>
         split at hl
         next a len cap hsv=>
          have hne: ∀ad,a=some ad->ad.block≠b:=by
           intro ad e e2
           subst e
           exact ht (by unfold touch;simp only [];rw [hargs];simp only [];rw [hsv];simp only [];rw [e2])
          split at hl
          next=>cases hl;rfl
          next=>
           split at hl
           next=>cases hl
           next=>cases hl;rfl
           next=>
            split at hl
            next=>cases hl
            next ad=>
             split at hl
             next=>cases hl
             next h2 hst=>cases hl;exact nX hst (hne _ rfl)
          next=>cases hl
         next=>cases hl
       next=>cases hl
      next=>cases hl
     next=>cases ha
    case delete=>
     simp only [aop,hcc]at ha
     split at ha
     next t ts m k xs htt hargs=>
      split at ha
      next=>cases ha
      next h2 hl=>
       cases ha
       unfold jX at hl
       split at hl
       next=>cases hl
       next r es c el hm=>
        obtain⟨g1,_,_⟩:=kP hm
        have hne:r≠b:=by intro e;subst e;exact ht (by unfold touch;simp only [];rw [hargs];simp only [];rw [g1])
        split at hl
        next=>cases hl
        next=>cases hl;exact bM hne
     next=>cases ha
 case convert src dst x=>
  exfalso
  unfold cls at hc
  simp only []at hc
  split at hc<;>omega
 all_goals first
  |(exfalso;simp [cls]at hc;done)
  |(exfalso;unfold cls at hc;simp only []at hc;split at hc<;>simp at hc;done)
end Go.Ab

namespace Go.Ab

theorem qO{a b:Value}(h:cQ a b=some true):a=b:=by
 unfold cQ at h
 cases a<;>(try (simp at h;done))<;>cases b<;>(try (simp at h;done))
 . rename_i x y
   cases x<;>cases y<;>simp at h<;>rfl
 . rename_i k x k' y
   simp only []at h
   rw [iv,gP]at h
   by_cases hk:k=k'
   . subst hk;simp at h;subst h;rfl
   . simp [hk]at h
 . rename_i s u
   simp only []at h
   rw [ik]at h
   simp at h
   have:s=u:=by cases s;cases u;simp [aE]at h;simp [h]
   subst this;rfl
theorem xq{E:Env}{kt:TypeId}{a b:Value}(ha:cu E kt a=true)(hb:cu E kt b=true): ∃r,cQ a b=some r:=by
 unfold cu at ha hb
 cases hu:E.und kt with
 |none=>simp [hu]at ha
 | some d=>
   simp only [hu]at ha hb
   cases d<;>simp only []at ha hb<;>try (cases ha;done)
   . cases a<;>simp only []at ha<;>try (cases ha;done)
     cases b<;>simp only []at hb<;>try (cases hb;done)
     exact⟨_,rfl⟩
   . cases a<;>simp only []at ha<;>try (cases ha;done)
     cases b<;>simp only []at hb<;>try (cases hb;done)
     rw [iv]at ha hb
     simp only [decide_eq_true_eq]at ha hb
     subst ha;subst hb
     rename_i x y
     refine⟨jm x y,?_⟩
     unfold cQ
     simp only []
     rw [iv]
     simp
   . cases a<;>simp only []at ha<;>try (cases ha;done)
     cases b<;>simp only []at hb<;>try (cases hb;done)
     exact⟨_,rfl⟩
theorem sj{k v:Value}{n:Nat}: ∀{es:List (Value×Value×Nat)},cB k es=some (some (v,n))->jW k v es=es
 | [],h=>by cases h
 | (k',v',n')::l,h=>by
   simp only [cB,jW]at h⊢
   cases hk:cQ k k' with
   |none=>rw [hk]at h;cases h
   | some b=>
     rw [hk]at h
     cases b with
     |true=>simp only []at h⊢;cases h;rw [qO hk]
     |false=>simp only []at h⊢;rw [sj h]
theorem oR{k k0 z:Value}{c:Nat}: ∀(es:List (Value×Value×Nat)),cB k (es++[(k0,z,c)])=(match cB k es with
 |none=>none
 |some (some x)=>some (some x)
 | some none=>match cQ k k0 with
   |none=>none
   |some true=>some (some (z,c))
   |some false=>some none)
 | []=>by
   simp only [List.nil_append,cB]
   cases cQ k k0 with
   |none=>rfl
   |some b=>cases b<;>rfl
 | (k',v',n')::l=>by
   simp only [List.cons_append,cB]
   cases hk:cQ k k' with
   |none=>rfl
   | some b=>
     cases b with
     |true=>rfl
     |false=>simp only [];exact oR l

theorem look_ent {E:Env} {t:TypeId} {m k:Operand} {ρ:Operand->Value} {h h1:Hp} {nx:cR} (ha:aop E ρ h (.mapEntry t m k)=some (nx,h1)) (mv kv:Value):
 dA E h1 t mv kv false=dA E h t mv kv false:=by
 obtain⟨v,hl⟩: ∃v,iq E h t (ρ m) (ρ k)=some (h1,v):=by
  simp only [aop]at ha
  cases hq:iq E h t (ρ m) (ρ k)with
  |none=>rw [hq]at ha;cases ha
  |some q=>rw [hq]at ha;obtain⟨a,b⟩:=q;cases ha;exact⟨b,rfl⟩
 unfold iq at hl
 split at hl
 next=>cases hl
 next r es c el hm=>
  obtain⟨g1,g2,kt,g3,g4⟩:=kP hm
  have hsome:(h.get r).isSome=true:=by rw [g2];rfl
  unfold dA
  simp only [g3]
  cases hf:cu E kt kv with
  |false=>rfl
  | true =>
    simp only [cond_true,cond_false]
    cases mv<;>(try rfl)
    rename_i r'
    cases r' with
    |none=>rfl
    | some r' =>
      simp only []
      by_cases hr:r=r'
      . subst hr
        split at hl
        next=>cases hl
        next v0 n0 hfd=>
         cases hl
         rw [Hp.get_put,if_pos ⟨rfl,hsome⟩,g2,sj hfd]
        next hfd=>
         split at hl
         next=>cases hl
         next z hz=>
          cases hl
          rw [Hp.get_put,if_pos ⟨rfl,hsome⟩,g2]
          simp only []
          rw [oR]
          cases cB kv es with
          |none=>rfl
          | some y=>
            cases y with
            |some y=>rfl
            | none=>
              simp only []
              obtain⟨b,hb⟩:=xq hf g4
              rw [hb]
              cases b with
              |true=>simp only []
              |false=>rfl
      . have:h1.get r'=h.get r':=by
         split at hl
         next=>cases hl
         next=>cases hl;exact bM hr
         next=>
          split at hl
          next=>cases hl
          next=>cases hl;exact bM hr
        rw [this]

def cut(mu:Mu)(n:Nat):Mu:=fun b=>if b<n then mu b else .none
theorem dw{mu:Mu}{n b:Nat}(h:b<n):cut mu n b=mu b:=by simp [cut,h]
theorem lc{mu:Mu}{n b:Nat}(h:n<=b):cut mu n b=.none:=by simp [cut,Nat.not_lt.2 h]
theorem dC.in{mu:Mu}{a a':Addr}(h:dC mu a a'):mu a.block≠ .none:=by
 intro e;unfold dC at h;rw [e]at h;exact h
theorem dh.in{mu:Mu}{a a':Addr}{c c':Nat}(h:dh mu a c a' c'):mu a.block≠ .none:=by
 intro e;unfold dh at h;rw [e]at h;exact h
theorem cV.in{mu:Mu}{b c:Nat}(h:cV mu b c):mu b≠ .none:=by
 intro e;unfold cV at h;rw [e]at h;exact h
theorem dC.cut{mu:Mu}{n:Nat}{a a':Addr}(h:dC mu a a')(hn:a.block<n):dC (cut mu n) a a':=by
 unfold dC at*;rw [dw hn];exact h
theorem dh.cut{mu:Mu}{n:Nat}{a a':Addr}{c c':Nat}(h:dh mu a c a' c')(hn:a.block<n):dh (cut mu n) a c a' c':=by
 unfold dh at*;rw [dw hn];exact h
theorem cV.cut{mu:Mu}{n:Nat}{b c:Nat}(h:cV mu b c)(hn:b<n):cV (cut mu n) b c:=by
 unfold cV at*;rw [dw hn];exact h
theorem ao.cut{mu muT:Mu}{n:Nat}(hn: ∀b,muT b≠ .none->b<n){v vT:Value}(hT:ao muT v vT): ∀{v':Value},ao mu v v'->ao (cut mu n) v v':=by
 induction hT with
 |poison v=>intro v' _;exact .poison v'
 |bool b=>intro v' h;cases h;exact .bool b
 |int k m=>intro v' h;cases h;exact .int k m
 |string s=>intro v' h;cases h;exact .string s
 |nilp=>intro v' h;cases h;exact .nilp
 |ptr a=>intro v' h;cases h;rename_i h1;exact .ptr (h1.cut (hn _ a.in))
 |nils=>intro v' h;cases h;exact .nils
 |slice l a=>intro v' h;cases h;rename_i h2 h1;exact .slice h1 (h2.cut (hn _ a.in))
 |nilm=>intro v' h;cases h;exact .nilm
 |map a=>intro v' h;cases h;rename_i h1;exact .map (h1.cut (hn _ a.in))
 | fn a1 a2 b1 b2 i1 i2=>
   intro v' h
   cases h
   rename_i h1 h2 h3 h4
   refine .fn h1 (fun i u u' hu hu'=>?_) h3 (fun i u u' hu hu'=>?_)
   . have k1:=xX (l:=_) (i:=i) (by rw [<-a1];exact(List.getElem?_eq_some_iff.1 hu).1)
     exact i1 i u _ hu k1 (h2 i u u' hu hu')
   . have k1:=xX (l:=_) (i:=i) (by rw [<-b1];exact(List.getElem?_eq_some_iff.1 hu).1)
     exact i2 i u _ hu k1 (h4 i u u' hu hu')
 |yield a=>intro v' h;cases h;rename_i h1;exact .yield (h1.cut (hn _ a.in))
 |nilf=>intro v' h;cases h;exact .nilf
 |nili=>intro v' h;cases h;exact .nili
 |iface _ i=>intro v' h;cases h;rename_i h1;exact .iface (i h1)
 | agg a1 a2 i1=>
   intro v' h
   cases h
   rename_i h1 h2
   refine .agg h1 (fun i u u' hu hu'=>?_)
   have k1:=xX (l:=_) (i:=i) (by rw [<-a1];exact(List.getElem?_eq_some_iff.1 hu).1)
   exact i1 i u _ hu k1 (h2 i u u' hu hu')
 | tuple a1 a2 i1=>
   intro v' h
   cases h
   rename_i h1 h2
   refine .tuple h1 (fun i u u' hu hu'=>?_)
   have k1:=xX (l:=_) (i:=i) (by rw [<-a1];exact(List.getElem?_eq_some_iff.1 hu).1)
   exact i1 i u _ hu k1 (h2 i u u' hu hu')
end Go.Ab

namespace Go.Ab

def Sub(q q':Nat):Prop:= ∀i,q.testBit i=true->q'.testBit i=true
theorem cq(a b i:Nat):(yn a b).testBit i=(a.testBit i||b.testBit i):=Nat.testBit_or a b i
theorem gy(n i:Nat):(Nat.pow 2 n).testBit i=decide (n=i):=Nat.testBit_two_pow
def binds(e:Edge):Bool:=Region.binds .any e

def BefOk(ops:List Oper)(M:List Nat)(i:Nat):Prop:= ∀o,ops[i]? =some o-> ∃m,M[i]? =some m/\(∀e∈o.after.toList,binds e=true->e.on<i)/\
 ∀b,m.testBit b=true-> ∃e∈o.after.toList,binds e=true/\(b=e.on\/ ∃m',M[e.on]? =some m'/\m'.testBit b=true)

theorem ui (acc:List Nat): ∀(es:List Edge) (s0:Option Nat) (m:Nat),es.foldl (fun s e=>match s with
 |none=>none
 | some s=>match e.ground with
   | .textOnly _=>some s
   | .gcOnly _=>some s
   | _=>match acc[acc.length-1-e.on]? with
     |none=>none
     |some m=>bif yq e.on acc.length then some (yn (yn s (Nat.pow 2 e.on)) m)else none) s0=some m->
 ∃ s,s0=some s/\(∀e∈es,binds e=true->e.on<acc.length)/\
   ∀b,m.testBit b=true->s.testBit b=true\/ ∃e∈es,binds e=true/\(b=e.on\/ ∃m',acc.reverse[e.on]? =some m'/\m'.testBit b=true)
 | [],s0,m,h=>⟨m,h,by simp,fun b hb=>.inl hb⟩
 | e :: es,s0,m,h=>by
   rw [List.foldl_cons]at h
   obtain⟨s1,h1,h2,h3⟩:=ui acc es _ m h
   cases s0 with
   |none=>cases h1
   | some s=>
     refine⟨s,rfl,?_⟩
     have skip:binds e=false->s1=s->(∀e'∈e::es,binds e'=true->e'.on<acc.length)/\
      ∀b,m.testBit b=true->s.testBit b=true\/ ∃e'∈e::es,binds e'=true/\(b=e'.on\/ ∃m',acc.reverse[e'.on]? =some m'/\m'.testBit b=true):=by
      intro hb e1
      subst e1
      refine⟨fun e' he' hb'=>?_,fun b hbb=>?_⟩
      . rcases List.mem_cons.1 he' with rfl|he'
        . rw [hb]at hb';cases hb'
        . exact h2 e' he' hb'
      . rcases h3 b hbb with x|⟨e',he',x⟩
        . exact .inl x
        . exact .inr ⟨e',xZ _ he',x⟩
     have main:binds e=true->(match acc[acc.length-1-e.on]? with
      |none=>none
      |some m=>bif yq e.on acc.length then some (yn (yn s (Nat.pow 2 e.on)) m)else none)=some s1->(∀e'∈e::es,binds e'=true->e'.on<acc.length)/\
      ∀b,m.testBit b=true->s.testBit b=true\/ ∃e'∈e::es,binds e'=true/\(b=e'.on\/ ∃m',acc.reverse[e'.on]? =some m'/\m'.testBit b=true):=by
      intro hb hm
      split at hm
      next=>cases hm
      next m0 hm0=>
       cases hlt:yq e.on acc.length with
       |false=>rw [hlt]at hm;cases hm
       | true=>
         rw [hlt]at hm
         cases hm
         have hlt':e.on<acc.length:=by simpa [Nat.blt_eq]using hlt
         refine⟨fun e' he' hb'=>?_,fun b hbb=>?_⟩
         . rcases List.mem_cons.1 he' with rfl|he'
           . exact hlt'
           . exact h2 e' he' hb'
         . rcases h3 b hbb with x|⟨e',he',x⟩
           . rw [cq,cq,gy]at x
             simp only [yj,decide_eq_true_eq]at x
             rcases x with(x|x)|x
             . exact .inl x
             . exact .inr ⟨e,ya,hb,.inl x.symm⟩
             . exact .inr ⟨e,ya,hb,.inr ⟨m0,by rw [List.getElem?_reverse hlt'];exact hm0,x⟩⟩
           . exact .inr ⟨e',xZ _ he',x⟩
     cases hg:e.ground<;>rw [hg]at h1
     case textOnly=>simp only [Option.some.injEq]at h1;exact skip (by simp [binds,Region.binds,hg]) h1.symm
     case gcOnly=>simp only [Option.some.injEq]at h1;exact skip (by simp [binds,Region.binds,hg]) h1.symm
     all_goals exact main (by simp [binds,Region.binds,hg]) h1

theorem befs_ok: ∀(os:List Oper) (acc ms:List Nat),befs os acc=some ms->ms.length=acc.length+os.length/\(∀i,i<acc.length->ms.reverse[i]? =acc.reverse[i]?)/\
 ∀ j o,os[j]? =some o-> ∃m,ms.reverse[acc.length+j]? =some m/\(∀e∈o.after.toList,binds e=true->e.on<acc.length+j)/\
   ∀b,m.testBit b=true-> ∃e∈o.after.toList,binds e=true/\(b=e.on\/ ∃m',ms.reverse[e.on]? =some m'/\m'.testBit b=true)
 | [],acc,ms,h=>by cases h;exact⟨rfl,fun _ _=>rfl,fun j o ho=>by simp at ho⟩
 | o :: os,acc,ms,h=>by
   simp only [befs]at h
   split at h
   next=>cases h
   next s hs=>
    obtain⟨s0,e0,f1,f2⟩:=ui acc _ _ _ hs
    cases e0
    obtain⟨g1,g2,g3⟩:=befs_ok os (s::acc) ms h
    have hpre: ∀i,i<acc.length->ms.reverse[i]? =acc.reverse[i]? :=by
     intro i hi
     rw [g2 i (by simp;omega),List.reverse_cons,List.getElem?_append_left (by simpa using hi)]
    refine⟨by rw [g1];simp;omega,hpre,fun j o' ho'=>?_⟩
    cases j with
    | zero=>
      simp at ho'
      subst ho'
      refine⟨s,?_,f1,fun b hb=>?_⟩
      . rw [yi,g2 acc.length (by simp),List.reverse_cons,List.getElem?_append_right (by simp)]
        simp
      . rcases f2 b hb with x|⟨e,he,hbe,x⟩
        . simp at x
        . refine⟨e,he,hbe,?_⟩
          rcases x with x|⟨m',hm',x⟩
          . exact .inl x
          . exact .inr ⟨m',by rw [hpre _ (f1 e he hbe)];exact hm',x⟩
    | succ j=>
      obtain⟨m,m1,m2,m3⟩:=g3 j o' (by simpa using ho')
      have e1:(s::acc).length+j=acc.length+(j+1):=by simp;omega
      rw [e1]at m1 m2
      exact⟨m,m1,m2,m3⟩

def Owe(E:Env)(ops:List Oper)(o p:Oper)(i n q:Nat)(l:List (Nat×Nat)):Prop:=
 oK ops o p=true/\(cls E o.op=0\/cls E p.op=0\/(cls E o.op=1/\cls E p.op=1)\/(cls E o.op=2/\cls E p.op=1/\(iE o.op p.op=true\/(i,n)∈l))\/
  (cls E o.op=1/\cls E p.op=2/\(iE p.op o.op=true\/(i,n)∈l))\/(cls E o.op=5/\cls E p.op=1/\(i,n)∈l)\/(cls E o.op=1/\cls E p.op=5/\(i,n)∈l)\/
  (cls E o.op≠2/\cls E p.op≠2/\(cls E p.op=3\/cls E p.op=5->q.testBit i=true)/\(cls E o.op=3\/cls E o.op=5->q.testBit n=true))\/
  (cls E o.op=3/\cls E p.op=1/\dm o.op=true/\(i,n)∈l)\/(cls E o.op=1/\cls E p.op=3/\dm p.op=true/\(i,n)∈l)\/(cls E o.op=3/\cls E p.op=4/\dm o.op=true/\dZ p.op=true/\(i,n)∈l))
theorem Owe.mono{E:Env}{ops:List Oper}{o p:Oper}{i n q q':Nat}{l l':List (Nat×Nat)}(hq:Sub q q')(hl: ∀x∈l,x∈l')(h:Owe E ops o p i n q l):Owe E ops o p i n q' l':=by
 obtain⟨h0,h1⟩:=h
 refine⟨h0,?_⟩
 rcases h1 with h|h|h|⟨a,b,h⟩|⟨a,b,h⟩|⟨a,b,h⟩|⟨a,b,h⟩|⟨a,b,c,d⟩|⟨a,b,c,h⟩|⟨a,b,c,h⟩|⟨a,b,c,d,h⟩
 . exact .inl h
 . exact .inr (.inl h)
 . exact .inr (.inr (.inl h))
 . exact .inr (.inr (.inr (.inl ⟨a,b,h.imp id (hl _)⟩)))
 . exact .inr (.inr (.inr (.inr (.inl ⟨a,b,h.imp id (hl _)⟩))))
 . exact .inr (.inr (.inr (.inr (.inr (.inl ⟨a,b,hl _ h⟩)))))
 . exact .inr (.inr (.inr (.inr (.inr (.inr (.inl ⟨a,b,hl _ h⟩))))))
 . exact .inr (.inr (.inr (.inr (.inr (.inr (.inr (.inl ⟨a,b,fun x=>hq _ (c x),fun x=>hq _ (d x)⟩)))))))
 . exact .inr (.inr (.inr (.inr (.inr (.inr (.inr (.inr (.inl ⟨a,b,c,hl _ h⟩))))))))
 . exact .inr (.inr (.inr (.inr (.inr (.inr (.inr (.inr (.inr (.inl ⟨a,b,c,hl _ h⟩)))))))))
 . exact .inr (.inr (.inr (.inr (.inr (.inr (.inr (.inr (.inr (.inr ⟨a,b,c,d,hl _ h⟩)))))))))

theorem owed_ok {E:Env} {ops:List Oper} {o:Oper} {m n:Nat}: ∀(ps:List Oper) (i:Nat) (q:Nat) (l:List (Nat×Nat)) (q':Nat) (l':List (Nat×Nat)),ia E ops o m n ps i (q,l)=some (q',l')->
 Sub q q'/\(∀x∈l,x∈l')/\ ∀j p,ps[j]? =some p->m.testBit (i+j)=false->Owe E ops o p (i+j) n q' l'
 | [],i,q,l,q',l',h=>by cases h;exact⟨fun _ x=>x,fun _ x=>x,fun j p hp=>by simp at hp⟩
 | p :: ps,i,q,l,q',l',h=>by
   have next: ∀{q1:Nat} {l1:List (Nat×Nat)},ia E ops o m n ps (i+1) (q1,l1)=some (q',l')->Sub q q1->(∀x∈l,x∈l1)->(m.testBit i=false->Owe E ops o p i n q1 l1)->
    Sub q q'/\(∀x∈l,x∈l')/\ ∀j p',(p::ps)[j]? =some p'->m.testBit (i+j)=false->Owe E ops o p' (i+j) n q' l':=by
    intro q1 l1 h1 hq hl ho
    obtain⟨g1,g2,g3⟩:=owed_ok ps (i+1) q1 l1 q' l' h1
    refine⟨fun x hx=>g1 x (hq x hx),fun x hx=>g2 x (hl x hx),fun j p' hp' hm=>?_⟩
    cases j with
    | zero=>
      simp at hp'
      subst hp'
      exact(ho hm).mono g1 g2
    | succ j=>
      have:=g3 j p' (by simpa using hp') (by rw [show i+1+j=i+(j+1) by omega];exact hm)
      rwa [show i+1+j=i+(j+1) by omega]at this
   simp only [ia]at h
   cases hm:m.testBit i with
   | true=>
     rw [hm]at h
     exact next h (fun _ x=>x) (fun _ x=>x) (fun hf=>by rw [hm]at hf;cases hf)
   | false=>
     rw [hm]at h
     simp only [cond_false]at h
     cases ha:oK ops o p with
     |false=>rw [ha]at h;cases h
     | true=>
       rw [ha]at h
       simp only [cond_true]at h
       split at h
       next hc=>exact next h (fun _ x=>x) (fun _ x=>x) (fun _=>⟨ha,.inl hc⟩)
       next hd _=>exact next h (fun _ x=>x) (fun _ x=>x) (fun _=>⟨ha,.inr (.inl hd)⟩)
       next hc hd=>exact next h (fun _ x=>x) (fun _ x=>x) (fun _=>⟨ha,.inr (.inr (.inl ⟨hc,hd⟩))⟩)
       next hc hd=>
        refine next h (fun _ x=>x) ?_ (fun _=>⟨ha,.inr (.inr (.inr (.inl ⟨hc,hd,?_⟩)))⟩)
        . intro x hx;cases iE o.op p.op<;>simp [hx]
        . cases iE o.op p.op<;>simp
       next hc hd=>
        refine next h (fun _ x=>x) ?_ (fun _=>⟨ha,.inr (.inr (.inr (.inr (.inl ⟨hc,hd,?_⟩))))⟩)
        . intro x hx;cases iE p.op o.op<;>simp [hx]
        . cases iE p.op o.op<;>simp
       next hc hd=>
        exact next h (fun _ x=>x) (fun x hx=>xZ _ hx) (fun _=>⟨ha,.inr (.inr (.inr (.inr (.inr (.inl ⟨hc,hd,ya⟩)))))⟩)
       next hc hd=>
        exact next h (fun _ x=>x) (fun x hx=>xZ _ hx) (fun _=>⟨ha,.inr (.inr (.inr (.inr (.inr (.inr (.inl ⟨hc,hd,ya⟩))))))⟩)
       next hc hd=>
        cases hr:dm o.op with
        | true=>
          rw [hr]at h
          exact next h (fun _ x=>x) (fun x hx=>xZ _ hx) (fun _=>⟨ha,.inr (.inr (.inr (.inr (.inr (.inr (.inr (.inr (.inl ⟨hc,hd,hr,ya⟩))))))))⟩)
        | false=>
          rw [hr]at h
          refine next h (fun x hx=>by rw [cq,hx];simp) (fun _ x=>x) (fun _=>⟨ha,.inr (.inr (.inr (.inr (.inr (.inr (.inr (.inl ⟨by omega,by omega,fun e=>by omega,fun _=>?_⟩)))))))⟩)
          rw [cq,gy];simp
       next hc hd=>
        cases hr:dm p.op with
        | true=>
          rw [hr]at h
          exact next h (fun _ x=>x) (fun x hx=>xZ _ hx) (fun _=>⟨ha,.inr (.inr (.inr (.inr (.inr (.inr (.inr (.inr (.inr (.inl ⟨hc,hd,hr,ya⟩)))))))))⟩)
        | false=>
          rw [hr]at h
          refine next h (fun x hx=>by rw [cq,hx];simp) (fun _ x=>x) (fun _=>⟨ha,.inr (.inr (.inr (.inr (.inr (.inr (.inr (.inl ⟨by omega,by omega,fun _=>?_,fun e=>by omega⟩)))))))⟩)
          rw [cq,gy];simp
       next hc hd=>
        cases hr:dm o.op&&dZ p.op with
        | true=>
          rw [hr]at h
          simp only [xY]at hr
          exact next h (fun _ x=>x) (fun x hx=>xZ _ hx) (fun _=>⟨ha,.inr (.inr (.inr (.inr (.inr (.inr (.inr (.inr (.inr (.inr ⟨hc,hd,hr.1,hr.2,ya⟩)))))))))⟩)
        | false=>
          rw [hr]at h
          refine next h (fun x hx=>by rw [cq,hx];simp) (fun _ x=>x) (fun _=>⟨ha,.inr (.inr (.inr (.inr (.inr (.inr (.inr (.inl ⟨by omega,by omega,fun e=>by omega,fun _=>?_⟩)))))))⟩)
          rw [cq,gy];simp
       next=>cases h
       next=>cases h
       next=>
        refine next h ?_ (fun _ x=>x) (fun _=>⟨ha,.inr (.inr (.inr (.inr (.inr (.inr (.inr (.inl ⟨?_,?_,?_,?_⟩)))))))⟩)
        . intro x hx
          rw [cq,cq,hx];simp
        . exact ‹cls E o.op=2->False›
        . exact ‹cls E p.op=2->False›
        . intro hd
          rw [cq]
          have:(yd (cls E p.op) 3||yd (cls E p.op) 5)=true:=by rcases hd with e|e<;>rw [e]<;>rfl
          rw [this]
          simp [gy]
        . intro hd
          rw [cq,cq]
          have:(yd (cls E o.op) 3||yd (cls E o.op) 5)=true:=by rcases hd with e|e<;>rw [e]<;>rfl
          rw [this]
          simp [gy]
end Go.Ab

namespace Go.Ab

theorem qY {E:Env} {ops:List Oper}: ∀(os:List Oper) (ms:List Nat) (n q:Nat) (l:List (Nat×Nat)) (q':Nat) (l':List (Nat×Nat)),pF E ops os ms n (q,l)=some (q',l')->
 Sub q q'/\(∀x∈l,x∈l')/\ ∀j o,os[j]? =some o->(cls E o.op=4->q'.testBit (n+j)=true)/\
  ∃m,ms[j]? =some m/\ ∀i p,i<n+j->ops[i]? =some p->m.testBit i=false->Owe E ops o p i (n+j) q' l'
 | [],ms,n,q,l,q',l',h=>by cases ms<;>(cases h;exact⟨fun _ x=>x,fun _ x=>x,fun j o ho=>by simp at ho⟩)
 |o::os,[],n,q,l,q',l',h=>by cases h
 | o :: os,m::ms,n,q,l,q',l',h=>by
   simp only [pF]at h
   split at h
   next=>cases h
   next q1 l1 h1=>
    obtain⟨f1,f2,f3⟩:=owed_ok _ _ _ _ _ _ h1
    obtain⟨g1,g2,g3⟩:=qY os ms (n+1) _ l1 q' l' h
    have s1:Sub q1 q':=by
     intro x hx
     apply g1
     cases yd (cls E o.op) 4 with
     |true=>simp only [cond_true];rw [cq,hx];simp
     |false=>exact hx
    refine⟨fun x hx=>s1 x (f1 x hx),fun x hx=>g2 x (f2 x hx),fun j o' ho'=>?_⟩
    cases j with
    | zero=>
      simp at ho'
      subst ho'
      refine⟨fun h4=>?_,m,rfl,fun i p hi hp hm=>?_⟩
      . apply g1
        rw [h4]
        show(yn (Nat.pow 2 n) q1).testBit (n+0)=true
        rw [cq,gy];simp
      . have:=f3 i p (by rw [List.getElem?_take,if_pos (by omega)];exact hp) (by rw [yp];exact hm)
        rw [yp]at this
        exact this.mono s1 g2
    | succ j=>
      obtain⟨a,m',b,c⟩:=g3 j o' (by simpa using ho')
      have e:n+1+j=n+(j+1):=by omega
      rw [e]at a c
      exact⟨a,m',by simpa using b,c⟩

theorem plan_ok{E:Env}{ops:List Oper}{q:Nat}{ps:List (Nat×Nat)}(h:plan E ops=some (q,ps)):
 ∃ M:List Nat,(∀i,BefOk ops M i)/\ ∀n o,ops[n]? =some o->(cls E o.op=4->q.testBit n=true)/\
   ∀m,M[n]? =some m-> ∀i p,i<n->ops[i]? =some p->m.testBit i=false->Owe E ops o p i n q ps:=by
 unfold plan at h
 split at h
 next=>cases h
 next ms hms=>
  obtain⟨_,_,f3⟩:=befs_ok _ _ _ hms
  obtain⟨_,_,g3⟩:=qY _ _ _ _ _ _ _ h
  refine⟨ms.reverse,fun i o ho=>?_,fun n o ho=>?_⟩
  . have:=f3 i o ho
    simpa using this
  . obtain⟨a,m,b,c⟩:=g3 n o ho
    rw [yp]at a c
    exact⟨a,fun m' hm'=>by rw [b]at hm';cases hm';exact c⟩

inductive pK(E:Env)(R:Rec)(ops:List Oper)(q i:Nat)(o:Oper)(l:Loc)(h:Hp):Loc->Hp->Option Nat->Bool->Prop
 |skip:bQ ops l.regs o=some false->pK E R ops q i o l h (l.put o.dst (.tuple #[])) h none false
 |exec {v:Value} {h':Hp}:bQ ops l.regs o=some true->cd E R (l.evD (tmpsOf o.op.operands.toList)) (dS E q i o.op) o h=some (v,h')->
  pK E R ops q i o l h (l.put o.dst v) h' (iW (l.evD (tmpsOf o.op.operands.toList)) o.op h) true

theorem uq {E:Env} {R:Rec} {ops:List Oper} {q:Nat}: ∀(os:List Oper) (i:Nat) (l:Loc) (h:Hp) (tr:List (Nat×Tch)) (l':Loc) (h':Hp) (tr':List (Nat×Tch)),dB E R ops q os i l h tr=some (l',h',tr')->
 (∀k,k<i->bN k tr'=bN k tr)/\
 ∃ (L:Nat->Loc) (H:Nat->Hp) (T:Nat->Option Nat) (X:Nat->Bool),L i=l/\H i=h/\L (i+os.length)=l'/\H (i+os.length)=h'/\
   (∀j o,os[j]? =some o->pK E R ops q (i+j) o (L (i+j)) (H (i+j)) (L (i+j+1)) (H (i+j+1)) (T (i+j)) (X (i+j)))/\
   (∀j o b,os[j]? =some o->dm o.op=false->T (i+j)=some b->bN (i+j) tr'=some (.blk b))/\
   (∀j o,os[j]? =some o->dm o.op=true->X (i+j)=true->dS E q (i+j) o.op=false->bN (i+j) tr'=some (.run (H (i+j)) (H (i+j+1))))
 | [],i,l,h,tr,l',h',tr',hl=>by
   cases hl
   exact⟨fun _ _=>rfl,fun _=>l,fun _=>h,fun _=>none,fun _=>false,rfl,rfl,rfl,rfl,fun j o ho=>by simp at ho,fun j o b ho=>by simp at ho,fun j o ho=>by simp at ho⟩
 | o :: os,i,l,h,tr,l',h',tr',hl=>by
   have next: ∀{l1:Loc} {h1:Hp} {tr1:List (Nat×Tch)} {t:Option Nat} {x:Bool} {nt:Option Tch},dB E R ops q os (i+1) l1 h1 tr1=some (l',h',tr')->tr1=fQ i tr nt->pK E R ops q i o l h l1 h1 t x->
    (dm o.op=false-> ∀b,t=some b->nt=some (.blk b))->(dm o.op=true->x=true->dS E q i o.op=false->nt=some (.run h h1))->
    (∀k,k<i->bN k tr'=bN k tr)/\
    ∃ (L:Nat->Loc) (H:Nat->Hp) (T:Nat->Option Nat) (X:Nat->Bool),L i=l/\H i=h/\L (i+(o::os).length)=l'/\H (i+(o::os).length)=h'/\
      (∀j o',(o::os)[j]? =some o'->pK E R ops q (i+j) o' (L (i+j)) (H (i+j)) (L (i+j+1)) (H (i+j+1)) (T (i+j)) (X (i+j)))/\
      (∀j o' b,(o::os)[j]? =some o'->dm o'.op=false->T (i+j)=some b->bN (i+j) tr'=some (.blk b))/\
      (∀j o',(o::os)[j]? =some o'->dm o'.op=true->X (i+j)=true->dS E q (i+j) o'.op=false->bN (i+j) tr'=some (.run (H (i+j)) (H (i+j+1)))):=by
    intro l1 h1 tr1 t x nt hl1 htr hd n1 n2
    obtain⟨f1,L,H,T,X,g1,g2,g3,g4,g5,g6,g7⟩:=uq os (i+1) l1 h1 tr1 l' h' tr' hl1
    have hnoted: ∀k,k<i->bN k tr1=bN k tr:=by
     intro k hk
     rw [htr]
     cases nt with
     |none=>rfl
     | some b=>
       show(bif yd k i then some b else bN k tr)=_
       rw [cw,decide_eq_false (by omega)];rfl
    have hat: ∀e,nt=some e->bN i tr'=some e:=by
     intro e he
     rw [f1 i (by omega),htr,he]
     show(bif yd i i then some e else bN i tr)=_
     rw [Nat.beq_refl];rfl
    refine⟨fun k hk=>(f1 k (by omega)).trans (hnoted k hk),fun k=>if k=i then l else L k,fun k=>if k=i then h else H k,fun k=>if k=i then t else T k,fun k=>if k=i then x else X k,by simp,by simp,?_,?_,?_,?_,?_⟩
    . show(if i+(o::os).length=i then l else L (i+(o::os).length))=l'
      rw [yf,if_neg (by omega),<-g3];congr 1;omega
    . show(if i+(o::os).length=i then h else H (i+(o::os).length))=h'
      rw [yf,if_neg (by omega),<-g4];congr 1;omega
    . intro j o' ho'
      cases j with
      | zero=>
        simp at ho'
        subst ho'
        simp only [yi,if_true,if_neg (show¬i+1=i by omega)]
        rw [g1,g2];exact hd
      | succ j=>
        have:=g5 j o' (by simpa using ho')
        have e:i+1+j=i+(j+1):=by omega
        rw [e]at this
        simp only [if_neg (show¬i+(j+1)=i by omega),if_neg (show¬i+(j+1)+1=i by omega)]
        exact this
    . intro j o' b ho' hr hb
      cases j with
      | zero=>
        simp at ho'
        subst ho'
        simp only [yi,if_true]at hb⊢
        exact hat _ (n1 hr b hb)
      | succ j=>
        simp only [if_neg (show¬i+(j+1)=i by omega)]at hb
        have e:i+1+j=i+(j+1):=by omega
        have:=g6 j o' b (by simpa using ho') hr (by rw [e];exact hb)
        rwa [e]at this
    . intro j o' ho' hr hx hh
      cases j with
      | zero=>
        simp at ho'
        subst ho'
        simp only [yi,if_true,if_neg (show¬i+1=i by omega)]at hx hh⊢
        rw [g2]
        exact hat _ (n2 hr hx hh)
      | succ j=>
        simp only [if_neg (show¬i+(j+1)=i by omega),if_neg (show¬i+(j+1)+1=i by omega)]at hx⊢
        have e:i+1+j=i+(j+1):=by omega
        have:=g7 j o' (by simpa using ho') hr (by rw [e];exact hx) (by rw [e];exact hh)
        rwa [e]at this
   simp only [dB]at hl
   split at hl
   next=>cases hl
   next hg=>exact next (t:=none) (nt:=none) hl rfl (.skip hg) (fun _ b e=>by cases e) (fun _ e=>by cases e)
   next hg=>
    split at hl
    next=>cases hl
    next v h1 hs=>
     refine next hl rfl (.exec hg hs) (fun hr b hb=>?_) (fun hr _ hh=>?_)
     . unfold cb;rw [hr,hb];rfl
     . unfold cb;rw [hr,hh];rfl

theorem oe{tr:List (Nat×Tch)}: ∀{ps:List (Nat×Nat)},dK tr ps=true-> ∀{i j:Nat},(i,j)∈ps->iP (bN i tr) (bN j tr)=true
 | [],_,i,j,hm=>by cases hm
 | (i',j')::ps,h,i,j,hm=>by
   simp only [dK,xY]at h
   rcases List.mem_cons.1 hm with e|hm
   . cases e;exact h.1
   . exact oe h.2 hm

theorem pP{a b:Addr}(h:sameAddr a b=true):a=b:=by
 unfold sameAddr at h
 simp only [xY]at h
 obtain⟨⟨h1,h2⟩,h3⟩:=h
 have e1:=xW h1
 have e2:=xW h2
 obtain⟨x,y,z⟩:=a
 obtain⟨x',y',z'⟩:=b
 simp only []at e1 e2 h3
 subst e1 e2
 cases z<;>cases z'<;>simp at h3
 . rfl
 . subst h3;rfl
theorem my{a b:Value}(h:nj a b=true):a=b:=by
 unfold nj at h
 split at h
 next t ht=>subst h;exact qO ht
 next=>
  split at h
  next=>rfl
  next=>rw [pP h]
  next=>
   simp only [xY]at h
   rw [xW h.1,xW h.2]
  next=>
   simp only [xY]at h
   rw [pP h.1,xW h.2.1,xW h.2.2]
  next=>rfl
  next=>rw [xW h]
  next=>rfl
  next=>rfl
  next=>cases h
theorem oE: ∀{l m:List Value},oU l m=true->l=m
 | [],[],_=>rfl
 | [],_::_,h=>by cases h
 |_::_,[],h=>by cases h
 | x::l,y::m,h=>by
   simp only [oU,xY]at h
   rw [my h.1,oE h.2]
theorem sH{a b:Value}(h:re a b=true):a=b:=by
 unfold re at h
 split at h
 next g x y g' x' y'=>
  simp only [xY]at h
  rw [xW h.1,Array.toList_inj.1 (oE h.2.1),Array.toList_inj.1 (oE h.2.2)]
 next=>
  simp only [xY]at h
  rw [xW h.1,my h.2]
 next=>exact my h
theorem qp: ∀{t u:Tr Value},sameT t u=true->t=u
 | .nil,.nil,_=>rfl
 | .nil,.node ..,h=>by cases h
 | .node ..,.nil,h=>by cases h
 | .node x l r,.node x' l' r',h=>by
   simp only [sameT,xY]at h
   rw [sH h.1,qp h.2.1,qp h.2.2]
theorem vt: ∀{l m:List (Value×Value×Nat)},sameE l m=true->l=m
 | [],[],_=>rfl
 | [],_::_,h=>by cases h
 |_::_,[],h=>by cases h
 | (k,x,n)::l,(k',y,m)::l',h=>by
   simp only [sameE,xY]at h
   rw [my h.1,sH h.2.1,xW h.2.2.1,vt h.2.2.2]
theorem sameB_ok{x y:Blk}(h:sameB x y=true):x=y:=by
 unfold sameB at h
 rw [yj]at h
 rcases h with h|h
 . split at h
   next=>
    simp only [xY]at h
    rw [qp h.1,xW h.2.1,xW h.2.2.1,xW h.2.2.2]
   next=>
    simp only [xY]at h
    rw [xW h.1,vt h.2]
   next=>cases h
 . exact @of_decide_eq_true _ (Classical.propDecidable _) h
theorem tu{h h':Hp}{b:Nat}(e:leaves h h' b=true):h'.get b=h.get b:=by
 unfold leaves at e
 split at e
 next h1 h2=>rw [h1,h2,sameB_ok e]
 next h1 h2=>rw [h1,h2]
 next=>cases e
theorem pM{h h':Hp}{b:Nat}(e:h'.get b=h.get b):leaves h h' b=true:=by
 unfold leaves
 rw [e]
 cases h.get b with
 |none=>rfl
 | some x=>
   show sameB x x=true
   unfold sameB
   rw [yj]
   exact .inr (@decide_eq_true _ (Classical.propDecidable _) rfl)
end Go.Ab

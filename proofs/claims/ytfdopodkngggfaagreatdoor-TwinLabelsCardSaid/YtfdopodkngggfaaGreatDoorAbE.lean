/- A deterministic evaluator of the model's code, and that the model follows it (part 5). -/
import Derived.Test.YtfdopodkngggfaaGreatDoorAbD
import Derived.ChangeSame
import Derived.RowKit3
import Derived.JoinedOf
import Derived.KernelRfl
import Derived.WalkKit
import Derived.ProofKit
import Derived.OpenShut
import Derived.Carry
open Iff renaming rfl->zM
open Nat renaming ble->zN,beq->zR,eq_of_beq_eq_true->zS,ble_eq_true_of_le->zT,le_refl->zU,lt_or_ge->zW,blt->Xc
open List renaming getElem?_append_right->zO,map_congr_left->zQ,getElem?_append_left->zV,getElem?_map->zX,mem_cons_self->zZ,append_assoc->Xa,drop_eq_getElem_cons->Xb,replicate->Xd
open Array renaming getElem?_eq_getElem->zP,map_congr_left->Xe
open Option renaming map_eq_some_iff->zY
set_option maxHeartbeats 400000
set_option linter.defProp false
set_option linter.unusedVariables false
set_option linter.unusedSimpArgs false
namespace Go.Ab

def RLe(R R':Rec):Prop:=(∀f a rc h o,R.call f a rc h=some o->R'.call f a rc h=some o)/\(∀cx c l h o,R.code cx c l h=some o->R'.code cx c l h=some o)
def mM{α:Type}(F:Rec->Option α):Prop:= ∀R R',RLe R R'-> ∀o,F R=some o->F R'=some o
theorem mM.const{α:Type}(x:Option α):mM (fun _=>x):=fun _ _ _ _ h=>h
theorem mM.bind{α β:Type}{F:Rec->Option α}{G:α->Rec->Option β}(hF:mM F)(hG: ∀a,mM (G a)):mM (fun R=>(F R).bind fun a=>G a R):=by
 intro R R' le o h
 simp only []at h⊢
 cases hx:F R with
 |none=>rw [hx]at h;cases h
 | some a=>
   rw [hx]at h
   rw [hF R R' le a hx]
   exact hG a R R' le o h

theorem RLe.refl(R:Rec):RLe R R:=⟨fun _ _ _ _ _ h=>h,fun _ _ _ _ _ h=>h⟩
theorem RLe.trans{a b c:Rec}(h:RLe a b)(k:RLe b c):RLe a c:=⟨fun f x rc hh o e=>k.1 _ _ _ _ _ (h.1 _ _ _ _ _ e),fun cx x l hh o e=>k.2 _ _ _ _ _ (h.2 _ _ _ _ _ e)⟩

def MC(E:Env)(W:Rec){α:Type}(F:Rec->Option α):Prop:=mM F/\ ∀o,F W=some o-> ∃n,F (run E n)=some o

section
variable{E:Env}{W:Rec}
theorem MC.const{α:Type}(x:Option α):MC E W (fun _=>x):=⟨.const x,fun _ h=>⟨0,h⟩⟩
theorem MC.bind(up: ∀n m,n<=m->RLe (run E n) (run E m)){α β:Type}{F:Rec->Option α}{G:α->Rec->Option β}(hF:MC E W F)(hG: ∀a,MC E W (G a)):MC E W (fun R=>(F R).bind fun a=>G a R):=by
 refine⟨hF.1.bind fun a=>(hG a).1,fun o h=>?_⟩
 simp only []at h
 cases hx:F W with
 |none=>rw [hx]at h;cases h
 | some a=>
   rw [hx]at h
   obtain⟨n,hn⟩:=hF.2 a hx
   obtain⟨m,hm⟩:=(hG a).2 o h
   refine⟨n+m,?_⟩
   simp only []
   rw [hF.1 _ _ (up n (n+m) (by omega)) a hn]
   exact(hG a).1 _ _ (up m (n+m) (by omega)) o hm
theorem MC.congr{α:Type}{F F':Rec->Option α}(e: ∀R,F' R=F R)(h:MC E W F):MC E W F':=by
 have:F'=F:=funext e
 rw [this];exact h
end

section
variable(E:Env)
structure Closed(E:Env)(K: ∀{α:Type},(Rec->Option α)->Prop):Prop where
 const: ∀{α:Type} (x:Option α),K (fun _=>x)
 bind: ∀{α β:Type} {F:Rec->Option α} {G:α->Rec->Option β},K F->(∀a,K (G a))->K (fun R=>(F R).bind fun a=>G a R)
 congr: ∀{α:Type} {F F':Rec->Option α},(∀R,F' R=F R)->K F->K F'
 call: ∀f a rc h,K (fun R=>R.call f a rc h)
 code: ∀cx c l h,K (fun R=>R.code cx c l h)
end

section
variable{E:Env}{K: ∀{α:Type},(Rec->Option α)->Prop}(C:Closed E K)
include C

theorem k_round (b:Nat) (args:List Value) (h:Hp):K (fun R=>iE E R b args h):=by
 unfold iE
 cases hg:h.get b with
 |none=>exact C.const _
 | some x =>
   cases x<;>(try exact C.const _)
   rename_i r
   simp only []
   cases(E.fn r.fn).isSome with
   |false=>exact C.const _
   | true =>
     simp only [cond_true]
     split
     next hst =>
      split
      next=>exact C.const _
      next regs hregs=>
       refine C.congr (F:=fun R=>(R.code ⟨r.fn,r.nr,some b⟩ r.assign ⟨regs,[],none⟩ h).bind fun q=>match q with
        | (.normal,l1,h1)=>match h1.get b with
          | some (.loop r1)=>match r1.st with
            | 0 =>(R.code ⟨r.fn,r.nr,some b⟩ r.body l1 (h1.put b (.loop {r1 with st:=1}))).bind fun q=>match q with
              | (.normal,_,h2)=>match h2.get b with
                |some (.loop r2)=>some (.ret (.bool true),h2.put b (.loop {r2 with st:=0,pending:=none}))
                |_=>none
              | (.exit id,_,h2)=>match h2.get b with
                |some (.loop r2)=>some (.ret (.bool false),h2.put b (.loop {r2 with st:=2,pending:=some (.exit id)}))
                |_=>none
              | (.ret,_,h2)=>match h2.get b with
                |some (.loop r2)=>some (.ret (.bool false),h2.put b (.loop {r2 with st:=2,pending:=some .ret}))
                |_=>none
              | (.pan v,l2,h2)=>match l2.dfs with
                | []=>some (.pan v,h2)
                |_=>none
            |_=>none
          |_=>none
        |_=>none) ?_ ?_
       . intro R
         cases R.code ⟨r.fn,r.nr,some b⟩ r.assign ⟨regs,[],none⟩ h with
         |none=>rfl
         | some q=>
           obtain⟨x,l1,h1⟩:=q
           cases x<;>(try rfl)
           simp only [Option.bind_some]
           cases h1.get b with
           |none=>rfl
           | some y=>
             cases y<;>(try rfl)
             rename_i r1
             simp only []
             cases hst1:r1.st with
             | zero=>
               simp only []
               cases R.code ⟨r.fn,r.nr,some b⟩ r.body l1 (h1.put b (.loop {r1 with st:=1}))with
               |none=>rfl
               |some q=>obtain⟨x,l2,h2⟩:=q;cases x<;>rfl
             |succ n=>rfl
       . refine C.bind (C.code _ _ _ _) fun q=>?_
         obtain⟨x,l1,h1⟩:=q
         cases x<;>(try exact C.const _)
         simp only []
         cases h1.get b with
         |none=>exact C.const _
         | some y=>
           cases y<;>(try exact C.const _)
           simp only []
           split
           . refine C.bind (C.code _ _ _ _) fun q=>?_
             exact C.const _
           . exact C.const _
     next=>exact C.const _

theorem tL(x:Option (c9×Hp)):K (fun R=>cG E R x):=by
 cases x with
 |none=>exact C.const _
 | some q=>
   obtain⟨nx,h⟩:=q
   cases nx<;>(try exact C.const _)
   . rename_i f args
     refine C.congr (F:=fun R=>(R.call f args none h).bind fun q=>some (q.1,q.2.2)) (fun R=>?_) (C.bind (C.call _ _ _ _) fun _=>C.const _)
     simp only [cG]
     cases R.call f args none h with
     |none=>rfl
     |some q=>obtain⟨a,b,c⟩:=q;rfl
   . exact k_round C _ _ _

theorem k_stepOp(cx:Cx)(o:Oper)(l:Loc)(h:Hp):K (fun R=>dz E R cx o l h):=by
 unfold dz
 have key:K (fun R=>mb o l (cG E R (aop E l.ev h o.op))):=by
  refine C.congr (F:=fun R=>(cG E R (aop E l.ev h o.op)).bind fun q=>mb o l (some q)) (fun R=>?_) (C.bind (tL C _) fun _=>C.const _)
  cases cG E R (aop E l.ev h o.op)<;>rfl
 cases hx:aop E l.ev h o.op with
 |none=>exact C.const _
 | some q=>
   rw [hx]at key
   obtain⟨nx,h1⟩:=q
   cases nx<;>(try exact key)
   . cases cx.round<;>exact C.const _
   . cases cx.round<;>exact C.const _

theorem tQ (cx:Cx) (ops:List Oper): ∀(os:List Oper) (l:Loc) (h:Hp),K (fun R=>iL E R cx ops os l h)
 | [],l,h=>C.const _
 | o :: os,l,h=>by
   simp only [iL]
   cases bR ops l.regs o with
   |none=>exact C.const _
   | some b=>
     cases b with
     |false=>exact tQ cx ops os _ _
     | true=>
       refine C.congr (F:=fun R=>(dz E R cx o l h).bind fun q=>match q with
        |(.normal,l',h')=>iL E R cx ops os l' h'
        |q=>some q) (fun R=>?_) (C.bind (k_stepOp C _ _ _ _) fun q=>?_)
       . cases dz E R cx o l h with
         |none=>rfl
         |some q=>obtain⟨x,l',h'⟩:=q;cases x<;>rfl
       . obtain⟨x,l',h'⟩:=q
         cases x<;>first|exact tQ cx ops os _ _|exact C.const _

theorem k_stepD(ρ:Operand->Value)(quiet:Bool)(o:Oper)(h:Hp):K (fun R=>ct E R ρ quiet o h):=by
 unfold ct
 cases quiet with
 | true=>
   refine C.congr (F:=fun R=>(cG E R (aop E ρ {h with lo:=h.n} o.op)).bind fun q=>match q with
    |(.ret v,h')=>bif zN h.n h'.lo then some (v,{h' with lo:=h.lo})else none
    |_=>none) (fun R=>?_) (C.bind (tL C _) fun _=>C.const _)
   simp only [cond_true]
   cases cG E R (aop E ρ {h with lo:=h.n} o.op)with
   |none=>rfl
   |some q=>obtain⟨x,h'⟩:=q;cases x<;>rfl
 | false=>
   refine C.congr (F:=fun R=>(cG E R (aop E ρ h o.op)).bind fun q=>match q with
    |(.ret v,h')=>some (v,h')
    |_=>none) (fun R=>?_) (C.bind (tL C _) fun _=>C.const _)
   simp only [cond_false]
   cases cG E R (aop E ρ h o.op)with
   |none=>rfl
   |some q=>obtain⟨x,h'⟩:=q;cases x<;>rfl

theorem rM (ops:List Oper) (q:Nat): ∀(os:List Oper) (i:Nat) (l:Loc) (h:Hp) (tr:List (Nat×Tch)),K (fun R=>dO E R ops q os i l h tr)
 | [],i,l,h,tr=>C.const _
 | o :: os,i,l,h,tr=>by
   simp only [dO]
   cases bR ops l.regs o with
   |none=>exact C.const _
   | some b=>
     cases b with
     |false=>exact rM ops q os _ _ _ _
     | true=>
       refine C.congr (F:=fun R=>(ct E R (l.evD (tmpsOf o.op.operands.toList)) (er E q i o.op) o h).bind fun p=>
        dO E R ops q os (i+1) (l.put o.dst p.1) p.2 (gU i tr (cb (l.evD (tmpsOf o.op.operands.toList)) (er E q i o.op) o.op h p.2))) (fun R=>?_) (C.bind (k_stepD C _ _ _ _) fun q=>rM ops _ os _ _ _ _)
       cases ct E R (l.evD (tmpsOf o.op.operands.toList)) (er E q i o.op) o h with
       |none=>rfl
       |some p=>obtain⟨a,b⟩:=p;rfl

theorem k_range (cx:Cx) (f:Value) (params:Array Tmp) (assign body:Code) (l:Loc) (h:Hp):K (fun R=>ib R cx f params assign body l h):=by
 unfold ib
 cases f<;>(try exact C.const _)
 rename_i t a b
 cases t<;>(try exact C.const _)
 rename_i g
 simp only []
 split
 . exact C.const _
 . rename_i h1 d dfs _
   refine C.congr (F:=fun R=>(R.call g (a.toList++[.func (.yield h1.n) #[] #[]]++b.toList) none
    (h1.new (.loop {fn:=cx.fn,regs:=l.regs,nr:=cx.nr,params,assign,body,st:=0,pending:=none,defers:=d}))).bind fun q=>match q with
    |(.pan v,_,h2)=>some (.pan v,{l with dfs:=dfs},h2)
    | (.ret _,_,h2)=>match h2.get h1.n with
      | some (.loop x)=>match x.st with
        |1=>none
        | _=>match x.pending with
          |none=>some (.normal,{l with dfs:=dfs},h2.put h1.n .dead)
          |some (.exit id)=>some (.exit id,{l with dfs:=dfs},h2.put h1.n .dead)
          |some .ret=>some (.ret,{l with dfs:=dfs},h2.put h1.n .dead)
          |_=>none
      |_=>none) (fun R=>?_) (C.bind (C.call _ _ _ _) fun _=>C.const _)
   cases R.call g (a.toList++[.func (.yield h1.n) #[] #[]]++b.toList) none
         (h1.new (.loop {fn:=cx.fn,regs:=l.regs,nr:=cx.nr,params,assign,body,st:=0,pending:=none,defers:=d}))with
   |none=>rfl
   |some q=>obtain⟨x,y,z⟩:=q;cases x<;>rfl

theorem k_code(cx:Cx): ∀(c:Code) (l:Loc) (h:Hp),K (fun R=>aE E R cx c l h):=by
 intro c
 induction c with
 |skip=>intro l h;exact C.const _
 |label n=>intro l h;exact C.const _
 | region id ops draw=>
   intro l h
   simp only [aE]
   cases draw with
   |false=>exact tQ C _ _ _ _ _
   | true=>
     simp only [cond_true]
     cases plan E (eh ops.toList)with
     |none=>exact C.const _
     | some p=>
       obtain⟨q,ps⟩:=p
       simp only []
       refine C.congr (F:=fun R=>(dO E R (eh ops.toList) q (eh ops.toList) 0 l h []).bind fun x=>bif d9 x.2.2 ps then some (.normal,x.1,x.2.1)else none) (fun R=>?_) (C.bind (rM C _ _ _ _ _ _ _) fun _=>C.const _)
       cases dO E R (eh ops.toList) q (eh ops.toList) 0 l h []with
       |none=>rfl
       |some x=>obtain⟨a,b,c⟩:=x;rfl
 | seq a b iha ihb=>
   intro l h
   simp only [aE]
   refine C.congr (F:=fun R=>(aE E R cx a l h).bind fun q=>match q with
    |(.normal,l',h')=>aE E R cx b l' h'
    |q=>some q) (fun R=>?_) (C.bind (iha _ _) fun q=>?_)
   . cases aE E R cx a l h with
     |none=>rfl
     |some q=>obtain⟨x,l',h'⟩:=q;cases x<;>rfl
   . obtain⟨x,l',h'⟩:=q
     cases x<;>first|exact ihb _ _|exact C.const _
 | cond c a b iha ihb=>
   intro l h
   simp only [aE]
   cases l.ev c<;>(try exact C.const _)
   rename_i t
   cases t
   . exact ihb _ _
   . exact iha _ _
 | block id b ih=>
   intro l h
   simp only [aE]
   refine C.congr (F:=fun R=>(aE E R cx b l h).bind fun q=>match q with
    |(.exit i,l',h')=>bif zR i id then some (.normal,l',h')else some (.exit i,l',h')
    |q=>some q) (fun R=>?_) (C.bind (ih _ _) fun _=>C.const _)
   cases aE E R cx b l h with
   |none=>rfl
   |some q=>obtain⟨x,l',h'⟩:=q;cases x<;>rfl
 | loop b ih=>
   intro l h
   simp only [aE]
   refine C.congr (F:=fun R=>(aE E R cx b l h).bind fun q=>match q with
    |(.normal,l',h')=>R.code cx (.loop b) l' h'
    |q=>some q) (fun R=>?_) (C.bind (ih _ _) fun q=>?_)
   . cases aE E R cx b l h with
     |none=>rfl
     |some q=>obtain⟨x,l',h'⟩:=q;cases x<;>rfl
   . obtain⟨x,l',h'⟩:=q
     cases x<;>first|exact C.code _ _ _ _|exact C.const _
 |rangeFunc f params assign body _ _=>intro l h;exact k_range C _ _ _ _ _ _ _
 |exit id=>intro l h;exact C.const _
 |scope b ih=>intro l h;exact ih _ _
 |goto n=>intro l h;exact C.const _
 |ret=>intro l h;exact C.const _
 |refuse m=>intro l h;exact C.const _

theorem nH : ∀(ds:List Deferred) (m:Option Value) (h:Hp),K (fun R=>bw R ds m h)
 | [],m,h=>C.const _
 | d :: ds,m,h=>by
   simp only [bw]
   cases d.target with
   |nil=>exact C.const _
   |builtin a b c d=>exact C.const _
   |coroexit=>exact C.const _
   | collected b=>
     simp only []
     cases h.get b with
     |none=>exact C.const _
     |some x=>cases x<;>first|exact nH ds _ _|exact C.const _
   | fn t cap=>
     cases t<;>(try exact C.const _)
     rename_i f
     simp only []
     refine C.congr (F:=fun R=>(R.call f (d.args.toList++cap.toList) (match m with|none=>none|some v=>some (v,false)) h).bind fun q=>match q with
      | (.ret _,rc,h')=>match m,rc with
        |none,none=>bw R ds none h'
        |some _,some (_,true)=>bw R ds none h'
        |some _,some (v,false)=>bw R ds (some v) h'
        |_,_=>none
      |_=>none) (fun R=>?_) (C.bind (C.call _ _ _ _) fun q=>?_)
     . cases R.call f (d.args.toList++cap.toList) (match m with|none=>none|some v=>some (v,false)) h with
       |none=>rfl
       |some q=>obtain⟨x,y,z⟩:=q;cases x<;>rfl
     . obtain⟨x,rc,h'⟩:=q
       cases x with
       |pan v=>exact C.const _
       | ret v=>
         simp only []
         cases m with
         |none=>cases rc<;>first|exact nH ds _ _|exact C.const _
         | some v0=>
           cases rc with
           |none=>exact C.const _
           |some y=>obtain⟨v1,b⟩:=y;cases b<;>exact nH ds _ _

theorem k_body (f:FuncId) (args:List Value) (rc:Option (Value×Bool)) (h:Hp):K (fun R=>ju E R f args rc h):=by
 unfold ju
 cases E.fn f with
 |none=>exact C.const _
 | some fn =>
   simp only []
   cases fn.body with
   |none=>exact C.const _
   | some body=>
     simp only []
     cases zN args.length fn.ntmps with
     |false=>exact C.const _
     | true =>
       simp only [cond_true]
       have tail: ∀(l:Loc) (h':Hp),K (fun R=>match bw R l.dfs none h' with
        | some (none,h'')=>match aT E l.regs h'' fn.results.toList with
          |none=>none
          |some vs=>some (Out.ret (ac vs),l.rc,h'')
        |_=>none):=by
        intro l h'
        refine C.congr (F:=fun R=>(bw R l.dfs none h').bind fun q=>match q with
         | (none,h'')=>match aT E l.regs h'' fn.results.toList with
           |none=>none
           |some vs=>some (Out.ret (ac vs),l.rc,h'')
         |_=>none) (fun R=>?_) (C.bind (nH C _ _ _) fun _=>C.const _)
        cases bw R l.dfs none h' with
        |none=>rfl
        |some q=>obtain⟨x,y⟩:=q;cases x<;>rfl
       refine C.congr (F:=fun R=>(R.code ⟨f,fn.ntmps,none⟩ body ⟨(Tr.blank (.tuple #[]) fn.ntmps fn.ntmps).setAll 0 args,[],rc⟩ h).bind fun q=>match q with
        |(.exit _,_,_)=>none
        | (.pan v,l,h')=>match bw R l.dfs (some v) h' with
          |none=>none
          |some (some v,h'')=>some (Out.pan v,l.rc,h'')
          | some (none,h'')=>match aT E l.regs h'' fn.results.toList with
            |none=>none
            |some vs=>some (Out.ret (ac vs),l.rc,h'')
        | (_,l,h')=>match bw R l.dfs none h' with
          | some (none,h'')=>match aT E l.regs h'' fn.results.toList with
            |none=>none
            |some vs=>some (Out.ret (ac vs),l.rc,h'')
          |_=>none) (fun R=>?_) (C.bind (C.code _ _ _ _) fun q=>?_)
       . cases R.code ⟨f,fn.ntmps,none⟩ body ⟨(Tr.blank (.tuple #[]) fn.ntmps fn.ntmps).setAll 0 args,[],rc⟩ h with
         |none=>rfl
         |some q=>obtain⟨x,y,z⟩:=q;cases x<;>rfl
       . obtain⟨x,l,h'⟩:=q
         cases x with
         |exit id=>exact C.const _
         |normal=>exact tail l h'
         |ret=>exact tail l h'
         | pan v=>
           simp only []
           refine C.congr (F:=fun R=>(bw R l.dfs (some v) h').bind fun q=>match q with
            |(some v,h'')=>some (Out.pan v,l.rc,h'')
            | (none,h'')=>match aT E l.regs h'' fn.results.toList with
              |none=>none
              |some vs=>some (Out.ret (ac vs),l.rc,h'')) (fun R=>?_) (C.bind (nH C _ _ _) fun _=>C.const _)
           cases bw R l.dfs (some v) h' with
           |none=>rfl
           |some q=>obtain⟨x,y⟩:=q;cases x<;>rfl
theorem k_call(f:FuncId)(args:List Value)(rc:Option (Value×Bool))(h:Hp):K (fun R=>ig E R f args rc h):=by
 unfold ig
 cases E.orc f args with
 |none=>exact k_body C f args rc h
 |some v=>cases rc<;>exact C.const _
end

theorem iZ(E:Env):Closed E (fun F=>mM F)where
 const:=mM.const
 bind:=fun hF hG=>hF.bind hG
 congr:=fun e h=>by have:=funext e;rw [this];exact h
 call:=fun f a rc h R R' le o=>le.1 f a rc h o
 code:=fun cx c l h R R' le o=>le.2 cx c l h o

theorem next_mono{E:Env}{R R':Rec}(h:RLe R R'):RLe (next E R) (next E R'):=
 ⟨fun f a rc hh o e=>k_call (iZ E) f a rc hh R R' h o e,fun cx c l hh o e=>k_code (iZ E) cx c l hh R R' h o e⟩
theorem wp{E:Env}: ∀n,RLe (run E n) (run E (n+1))
 | 0=>by
   constructor
   . intro f a rc h o e;cases e
   . intro cx c l h o e;cases e
 |n+1=>next_mono (wp n)
theorem run_up{E:Env}(n m:Nat)(h:n<=m):RLe (run E n) (run E m):=by
 induction m with
 | zero => have:n=0:=by omega
           subst this;exact RLe.refl _
 | succ m ih=>
   by_cases e:n=m+1
   . subst e;exact RLe.refl _
   . exact(ih (by omega)).trans (wp m)

open Classical in
noncomputable def limOf{α:Type}(F:Nat->Option α):Option α:=if h: ∃n o,F n=some o then some (Classical.choose (Classical.choose_spec h))else none
theorem tb{α:Type}{F:Nat->Option α}(up: ∀n m,n<=m-> ∀o,F n=some o->F m=some o){o:α}:limOf F=some o↔ ∃n,F n=some o:=by
 constructor
 . intro h
   unfold limOf at h
   split at h
   . rename_i hx
     cases h
     exact⟨_,Classical.choose_spec (Classical.choose_spec hx)⟩
   . cases h
 . intro⟨n,h⟩
   unfold limOf
   have hx: ∃n o,F n=some o:=⟨n,o,h⟩
   rw [dif_pos hx]
   have h2:=Classical.choose_spec (Classical.choose_spec hx)
   have a:=up _ (n+Classical.choose hx) (by omega) _ h
   have b:=up _ (n+Classical.choose hx) (by omega) _ h2
   rw [a]at b;cases b;rfl

noncomputable def lim(E:Env):Rec where
 call:=fun f a rc h=>limOf fun n=>(run E n).call f a rc h
 code:=fun cx c l h=>limOf fun n=>(run E n).code cx c l h
theorem m9{E:Env}{f:FuncId}{a:List Value}{rc:Option (Value×Bool)}{h:Hp}{o:Out×Option (Value×Bool)×Hp}:(lim E).call f a rc h=some o↔ ∃n,(run E n).call f a rc h=some o:=
 tb fun n m hnm o e=>(run_up n m hnm).1 _ _ _ _ _ e
theorem pM{E:Env}{cx:Cx}{c:Code}{l:Loc}{h:Hp}{o:Ex×Loc×Hp}:(lim E).code cx c l h=some o↔ ∃n,(run E n).code cx c l h=some o:=
 tb fun n m hnm o e=>(run_up n m hnm).2 _ _ _ _ _ e
theorem run_lim{E:Env}(n:Nat):RLe (run E n) (lim E):=⟨fun _ _ _ _ _ h=>m9.2 ⟨n,h⟩,fun _ _ _ _ _ h=>pM.2 ⟨n,h⟩⟩

theorem rW(E:Env):Closed E (fun F=>MC E (lim E) F)where
 const:=MC.const
 bind:=fun hF hG=>MC.bind run_up hF hG
 congr:=fun e h=>MC.congr e h
 call:=fun f a rc h=>⟨(iZ E).call f a rc h,fun _ e=>m9.1 e⟩
 code:=fun cx c l h=>⟨(iZ E).code cx c l h,fun _ e=>pM.1 e⟩

theorem sV{α:Type}{x y:Option α}(h: ∀o,x=some o↔y=some o):x=y:=by
 cases x with
 | none=>cases y with
   |none=>rfl
   |some b=>exact absurd ((h b).2 rfl) (by simp)
 |some a=>exact((h a).1 rfl).symm

theorem call_eq(E:Env)(f:FuncId)(a:List Value)(rc:Option (Value×Bool))(h:Hp):(lim E).call f a rc h=ig E (lim E) f a rc h:=by
 refine sV fun o=>⟨fun e=>?_,fun e=>?_⟩
 . obtain⟨n,hn⟩:=m9.1 e
   cases n with
   |zero=>cases hn
   |succ n=>exact k_call (iZ E) f a rc h _ _ (run_lim n) o hn
 . obtain⟨n,hn⟩:=(k_call (rW E) f a rc h).2 o e
   exact m9.2 ⟨n+1,hn⟩
theorem tK(E:Env)(cx:Cx)(c:Code)(l:Loc)(h:Hp):(lim E).code cx c l h=aE E (lim E) cx c l h:=by
 refine sV fun o=>⟨fun e=>?_,fun e=>?_⟩
 . obtain⟨n,hn⟩:=pM.1 e
   cases n with
   |zero=>cases hn
   |succ n=>exact k_code (iZ E) cx c l h _ _ (run_lim n) o hn
 . obtain⟨n,hn⟩:=(k_code (rW E) cx c l h).2 o e
   exact pM.2 ⟨n+1,hn⟩

theorem lim_ok{E:Env}{P:Program}(ok:EOk E P):gQ E P (lim E).call:=by
 intro g args rc h o rc' h' hl
 obtain⟨n,hn⟩:=m9.1 hl
 exact(run_ok ok (fun _ h1 h2=>draw_ok ok h1 h2) n).1 _ _ _ _ _ _ _ hn
end Go.Ab
namespace Go.Ab
theorem xQ{E:Env}{P:Program}{R:Rec}(hR:gQ E P R.call){f:FuncId}{args:List Value}{v:Value}{h':Hp}(ha:args.all cg=true)(hv:cg v=true)
 (hr:R.call f args none hp0=some (.ret v,none,h')):(∃fn,E.fn f=some fn/\fn.body.isSome=true)/\OrcAt P f args v:=by
 obtain⟨h0,h1⟩:=hR _ _ _ _ _ _ _ hr
 refine⟨h0,ha,hv,fun w cs0 kind hk=>?_⟩
 obtain⟨mu',w',rcC',fr,k1,k2,k3,k4,k5,k6,k7⟩:=h1 mu0 w ⟨args⟩ none cs0 kind (hrel0 w) glob0 (LR.refl fun a ha'=>ao.const mu0 (by simp only [List.all_eq_true]at ha;exact ha a ha')) trivial hk
 cases rcC' with
 |some x=>exact k3.elim
 | none=>
   obtain⟨v',l1,l2⟩:=k6
   rw [ao.const_eq hv l2]at l1
   exact⟨w',fr,⟨fun c hc=>k2.frame c hc (by intro b base top h;unfold mu0 at h;split at h<;>cases h),k2.wsize,k2.os,k2.tape,k2.output⟩,k5,l1,k7⟩
theorem yX{E:Env}{P:Program}(ok:EOk E P){n:Nat}{f:FuncId}{args:List Value}{v:Value}{h':Hp}(ha:args.all cg=true)(hv:cg v=true)
 (hr:(run E n).call f args none hp0=some (.ret v,none,h')):(∃fn,E.fn f=some fn/\fn.body.isSome=true)/\OrcAt P f args v:=
 xQ (R:=run E n) (run_ok ok (fun _ h1 h2=>draw_ok ok h1 h2) n).1 ha hv hr
end Go.Ab

namespace Go.Ab

def tabF:Nat->Nat->(Nat->Value)->Tr Value
 |0,_,_=>.nil
 | f+1,n,ρ=>match n with
   |0=>.nil
   |k+1=>.node (ρ 0) (tabF f ((k+1)/2) fun i=>ρ (2*i+1)) (tabF f (k/2) fun i=>ρ (2*i+2))
def tab(n:Nat)(ρ:Nat->Value):Tr Value:=tabF n n ρ
theorem get_tabF(f n:Nat)(ρ:Nat->Value)(h:n<=f)(j:Nat):(tabF f n ρ).get j=if j<n then some (ρ j)else none:=by
 induction f generalizing n j ρ with
 | zero => have:n=0:=by omega
           subst this;simp [tabF,Tr.get_nil]
 | succ f ih=>
   cases n with
   |zero=>simp [tabF,Tr.get_nil]
   | succ k=>
     simp only [tabF]
     rw [Tr.get_node]
     cases j with
     |zero=>simp
     | succ m=>
       simp only []
       by_cases hm:m%2=0
       . simp only [hm,if_true];rw [ih _ _ (by omega) (m/2)]
         have:m/2<(k+1)/2↔m+1<k+1:=by omega
         simp only [this,show 2*(m/2)+1=m+1 by omega]
       . simp only [hm,if_false];rw [ih _ _ (by omega) (m/2)]
         have:m/2<k/2↔m+1<k+1:=by omega
         simp only [this,show 2*(m/2)+2=m+1 by omega]
theorem ku(n:Nat)(ρ:Nat->Value)(j:Nat):(tab n ρ).get j=if j<n then some (ρ j)else none:=get_tabF n n ρ (zU _) j
theorem Tr.ext{α:Type}{t t':Tr α}(h: ∀i,t.get i=t'.get i):t=t':=by
 induction t generalizing t' with
 | nil=>
   cases t' with
   |nil=>rfl
   |node y l r=>have:=h 0;simp [Tr.get_nil,Tr.get_node]at this
 | node x l r ihl ihr=>
   cases t' with
   |nil=>have:=h 0;simp [Tr.get_nil,Tr.get_node]at this
   | node y l' r'=>
     have h0:=h 0
     simp [Tr.get_node]at h0
     subst h0
     rw [ihl (t':=l') (fun i=>by have:=h (2*i+1);simp only [Tr.get_node]at this;rw [if_pos (by omega),if_pos (by omega),show 2*i/2=i by omega]at this;exact this),
      ihr (t':=r') (fun i=>by have:=h (2*i+2);simp only [Tr.get_node]at this;rw [if_neg (by omega),if_neg (by omega),show(2*i+1)/2=i by omega]at this;exact this)]

def aa(ρ:Nat->Value)(t:Nat)(v:Value):Nat->Value:=fun i=>if i=t then v else ρ i
theorem aS(ρ:Nat->Value)(t:Nat)(v:Value)(i:Nat):aa ρ t v i=if i=t then v else ρ i:=rfl
theorem tab_set(n:Nat)(ρ:Nat->Value)(t:Nat)(v:Value):(tab n ρ).set t v=tab n (aa ρ t v):=by
 apply Tr.ext
 intro i
 rw [Tr.get_set,ku,ku]
 by_cases hi:i<n
 . by_cases e:t=i
   . subst e;simp [hi,aa]
   . simp [hi,e,aa,Ne.symm e]
 . simp [hi]
def cD:List Value->Nat->Value
 | [],_=>.tuple #[]
 | v::l,i=>match i with
   |0=>v
   |i+1=>cD l i
theorem argR_eq(l:List Value)(i:Nat):cD l i=(l[i]?).getD (.tuple #[]):=by
 induction l generalizing i with
 |nil=>rfl
 | cons v l ih=>cases i with
   |zero=>rfl
   |succ i=>simp [cD,ih]
theorem args_tab{n:Nat}{args:List Value}(h:args.length<=n):(Tr.blank (.tuple #[]) n n:Tr Value).setAll 0 args=tab n (cD args):=by
 apply Tr.ext
 intro i
 rw [Tr.get_setAll _ 0 args n (Tr.sized_blank _ _ _ (zU _)) (by omega),ku,Tr.get_blank _ _ _ (zU _),argR_eq]
 by_cases hi:i<args.length
 . rw [if_pos ⟨Nat.zero_le _,by omega⟩,if_pos (by omega)];simp [hi]
 . rw [if_neg (by omega)]
   by_cases hn:i<n
   . simp [hn];rw [List.getElem?_eq_none (by omega)];rfl
   . simp [hn]

def LL(n:Nat)(ρ:Nat->Value)(d:List Deferred)(rc:Option (Value×Bool)):Loc:=⟨tab n ρ,d,rc⟩
theorem dt(n:Nat)(ρ:Nat->Value)(d:List Deferred)(rc:Option (Value×Bool))(t:Nat)(v:Value):(LL n ρ d rc).put (some t) v=LL n (aa ρ t v) d rc:=by
 simp only [LL,Loc.put,tab_set]
theorem ll_put0(l:Loc)(v:Value):l.put none v=l:=rfl
theorem cB(n:Nat)(ρ:Nat->Value)(d:List Deferred)(rc:Option (Value×Bool))(t:Nat)(h:t<n):(LL n ρ d rc).ev (.tmp t)=ρ t:=by
 simp only [LL,Loc.ev,ku,if_pos h]
theorem ll_func(l:Loc)(f:Nat):l.ev (.func f)=.func (.func f) #[] #[]:=rfl
theorem ll_regs(n:Nat)(ρ:Nat->Value)(d:List Deferred)(rc:Option (Value×Bool)):(LL n ρ d rc).regs=tab n ρ:=rfl
def Then(x:Option (Ex×Loc×Hp))(K:Ex->Loc->Hp->Prop):Prop:= ∃e l h,x=some (e,l,h)/\K e l h
theorem gp{e:Ex}{l:Loc}{h:Hp}{K:Ex->Loc->Hp->Prop}:Then (some (e,l,h)) K↔K e l h:=by
 constructor
 . intro⟨_,_,_,h1,h2⟩;cases h1;exact h2
 . intro h2;exact⟨_,_,_,rfl,h2⟩

abbrev ey:=Ex->Loc->Hp->Prop
inductive Fr where
 |code (c:Code)
 |blk (id:Nat)
 |ops (all os:List Oper)
 |opsD (all:List Oper) (q:Nat) (ps:List (Nat×Nat)) (os:List Oper) (i:Nat) (tr:List (Nat×Tch))
section
variable(E:Env)(R:Rec)(cx:Cx)(Q:ey)
def Run:List Fr->Ex->Loc->Hp->Prop
 | [],e,l,h=>Q e l h
 | .code c::k,.normal,l,h=> ∃e' l' h',aE E R cx c l h=some (e',l',h')/\Run k e' l' h'
 | .ops a os::k,.normal,l,h=> ∃e' l' h',iL E R cx a os l h=some (e',l',h')/\Run k e' l' h'
 | .opsD a q ps os i tr::k,.normal,l,h=> ∃l' h' tr',dO E R a q os i l h tr=some (l',h',tr')/\d9 tr' ps=true/\Run k .normal l' h'
 | .blk _::k,.normal,l,h=>Run k .normal l h
 | .blk id::k,.exit i,l,h=>if i=id then Run k .normal l h else Run k (.exit i) l h
 |_::k,.exit i,l,h=>Run k (.exit i) l h
 |_::k,.ret,l,h=>Run k .ret l h
 |_::k,.pan v,l,h=>Run k (.pan v) l h
end
section
variable{E:Env}{R:Rec}{cx:Cx}{Q:ey}{k:List Fr}{l:Loc}{h:Hp}

theorem run_nil{e:Ex}:Run E R cx Q [] e l h↔Q e l h:=zM
theorem run_skip:Run E R cx Q (.code .skip::k) .normal l h↔Run E R cx Q k .normal l h:=by simp only [Run,aE];exact gp
theorem run_seq{a b:Code}:Run E R cx Q (.code (.seq a b)::k) .normal l h↔Run E R cx Q (.code a:: .code b::k) .normal l h:=by
 simp only [Run,aE]
 constructor
 . intro⟨e',l',h',h1,h2⟩
   cases ha:aE E R cx a l h with
   |none=>rw [ha]at h1;cases h1
   | some q=>
     obtain⟨x,l1,hh1⟩:=q
     rw [ha]at h1
     refine⟨x,l1,hh1,rfl,?_⟩
     cases x with
     |normal=>exact⟨e',l',h',h1,h2⟩
     |exit i=>cases h1;exact h2
     |ret=>cases h1;exact h2
     |pan v=>cases h1;exact h2
 . intro⟨x,l1,hh1,ha,h2⟩
   rw [ha]
   cases x with
   |normal=>exact h2
   |exit i=>exact⟨_,_,_,rfl,h2⟩
   |ret=>exact⟨_,_,_,rfl,h2⟩
   |pan v=>exact⟨_,_,_,rfl,h2⟩
theorem run_block {id:Nat} {b:Code}:Run E R cx Q (.code (.block id b)::k) .normal l h↔Run E R cx Q (.code b:: .blk id::k) .normal l h:=by
 simp only [Run,aE]
 constructor
 . intro ⟨e',l',h',h1,h2⟩
   cases ha:aE E R cx b l h with
   |none=>rw [ha]at h1;cases h1
   | some q=>
     obtain⟨x,l1,hh1⟩:=q
     rw [ha]at h1
     refine⟨x,l1,hh1,rfl,?_⟩
     cases x with
     |normal=>cases h1;exact h2
     | exit i=>
       simp only []at h1
       cases hi:zR i id with
       |true=>rw [hi]at h1;cases h1;have:=zS hi;subst this;simp only [Run,if_true];exact h2
       | false=>
         rw [hi]at h1;cases h1
         simp only [Run]
         rw [if_neg (by intro e;subst e;rw [Nat.beq_refl]at hi;cases hi)];exact h2
     |ret=>cases h1;exact h2
     |pan v=>cases h1;exact h2
 . intro⟨x,l1,hh1,ha,h2⟩
   rw [ha]
   cases x with
   |normal=>exact⟨_,_,_,rfl,h2⟩
   | exit i=>
     simp only [Run]at h2
     simp only []
     by_cases hi:i=id
     . subst hi;rw [if_pos rfl]at h2;rw [Nat.beq_refl];exact⟨_,_,_,rfl,h2⟩
     . rw [if_neg hi]at h2
       have:zR i id=false:=by
        cases hb:zR i id with
        |false=>rfl
        |true=>exact absurd (zS hb) hi
       rw [this];exact⟨_,_,_,rfl,h2⟩
   |ret=>exact⟨_,_,_,rfl,h2⟩
   |pan v=>exact⟨_,_,_,rfl,h2⟩
theorem run_scope{b:Code}:Run E R cx Q (.code (.scope b)::k) .normal l h↔Run E R cx Q (.code b::k) .normal l h:=zM
theorem run_blk{id:Nat}:Run E R cx Q (.blk id::k) .normal l h↔Run E R cx Q k .normal l h:=zM
theorem run_exit{id:Nat}:Run E R cx Q (.code (.exit id)::k) .normal l h↔Run E R cx Q k (.exit id) l h:=by simp only [Run,aE];exact gp
theorem run_ret:Run E R cx Q (.code .ret::k) .normal l h↔Run E R cx Q k .ret l h:=by simp only [Run,aE];exact gp
theorem we{id i:Nat}:Run E R cx Q (.blk id::k) (.exit i) l h↔if i=id then Run E R cx Q k .normal l h else Run E R cx Q k (.exit i) l h:=zM
theorem uS{c:Code}{i:Nat}:Run E R cx Q (.code c::k) (.exit i) l h↔Run E R cx Q k (.exit i) l h:=zM
theorem vp{a os:List Oper}{i:Nat}:Run E R cx Q (.ops a os::k) (.exit i) l h↔Run E R cx Q k (.exit i) l h:=zM
theorem zL{f:Fr}:Run E R cx Q (f::k) .ret l h↔Run E R cx Q k .ret l h:=by cases f<;>exact zM
theorem yI{f:Fr}{v:Value}:Run E R cx Q (f::k) (.pan v) l h↔Run E R cx Q k (.pan v) l h:=by cases f<;>exact zM
theorem run_cond{c:Operand}{a b:Code}:Run E R cx Q (.code (.cond c a b)::k) .normal l h↔ ∃t,l.ev c=.bool t/\if t=true then Run E R cx Q (.code a::k) .normal l h else Run E R cx Q (.code b::k) .normal l h:=by
 simp only [Run,aE]
 constructor
 . intro⟨e',l',h',h1,h2⟩
   cases hc:l.ev c<;>rw [hc]at h1<;>(try (cases h1;done))
   rename_i t
   cases t with
   |true=>exact⟨true,rfl,by rw [if_pos rfl];exact⟨e',l',h',h1,h2⟩⟩
   |false=>exact⟨false,rfl,by rw [if_neg (by simp)];exact⟨e',l',h',h1,h2⟩⟩
 . intro⟨t,hc,h2⟩
   rw [hc]
   cases t with
   |true=>rw [if_pos rfl]at h2;exact h2
   |false=>rw [if_neg (by simp)]at h2;exact h2
theorem zt{id:Nat}{ops:Array Oper}:Run E R cx Q (.code (.region id ops false)::k) .normal l h↔Run E R cx Q (.ops ops.toList ops.toList::k) .normal l h:=by simp only [Run,aE,cond_false]
theorem ye{a:List Oper}:Run E R cx Q (.ops a []::k) .normal l h↔Run E R cx Q k .normal l h:=by simp only [Run,iL];exact gp
theorem xu{a os:List Oper}{o:Oper}:Run E R cx Q (.ops a (o::os)::k) .normal l h↔ ∃b,bR a l.regs o=some b/\
 (if b=true then Then (dz E R cx o l h) fun e l' h'=>Run E R cx Q (.ops a os::k) e l' h' else Run E R cx Q (.ops a os::k) .normal (l.put o.dst (.tuple #[])) h):=by
 simp only [Run,iL]
 constructor
 . intro ⟨e',l',h',h1,h2⟩
   cases hg:bR a l.regs o with
   |none=>rw [hg]at h1;cases h1
   | some b=>
     rw [hg]at h1
     refine⟨b,rfl,?_⟩
     cases b with
     |false=>rw [if_neg (by simp)];exact⟨e',l',h',h1,h2⟩
     | true=>
       rw [if_pos rfl]
       simp only []at h1
       cases hs:dz E R cx o l h with
       |none=>rw [hs]at h1;cases h1
       | some q=>
         obtain⟨x,l1,hh1⟩:=q
         rw [hs]at h1
         refine⟨x,l1,hh1,rfl,?_⟩
         cases x with
         |normal=>exact⟨e',l',h',h1,h2⟩
         |exit i=>cases h1;exact h2
         |ret=>cases h1;exact h2
         |pan v=>cases h1;exact h2
 . intro⟨b,hg,h2⟩
   rw [hg]
   cases b with
   |false=>rw [if_neg (by simp)]at h2;exact h2
   | true=>
     rw [if_pos rfl]at h2
     obtain⟨x,l1,hh1,hs,h2⟩:=h2
     simp only [hs]
     cases x with
     |normal=>exact h2
     |exit i=>exact⟨_,_,_,rfl,h2⟩
     |ret=>exact⟨_,_,_,rfl,h2⟩
     |pan v=>exact⟨_,_,_,rfl,h2⟩

theorem run_draw{id:Nat}{ops:Array Oper}{q:Nat}{ps:List (Nat×Nat)}{os:List Oper}(hh:eh ops.toList=os)(hp:plan E os=some (q,ps)):Run E R cx Q (.code (.region id ops true)::k) .normal l h↔Run E R cx Q (.opsD os q ps os 0 []::k) .normal l h:=by
 simp only [Run,aE,cond_true,hh,hp]
 constructor
 . intro⟨e',l',h',h1,h2⟩
   cases he:dO E R os q os 0 l h []with
   |none=>rw [he]at h1;cases h1
   | some x=>
     obtain⟨a,b,c⟩:=x
     rw [he]at h1
     simp only []at h1
     cases hb:d9 c ps with
     |false=>rw [hb]at h1;cases h1
     |true=>rw [hb]at h1;cases h1;exact⟨_,_,_,rfl,hb,h2⟩
 . intro⟨l',h',tr',he,hb,h2⟩
   rw [he]
   simp only [hb,cond_true]
   exact⟨_,_,_,rfl,h2⟩
theorem wg{a:List Oper}{q i:Nat}{ps:List (Nat×Nat)}{tr:List (Nat×Tch)}:Run E R cx Q (.opsD a q ps [] i tr::k) .normal l h↔d9 tr ps=true/\Run E R cx Q k .normal l h:=by
 simp only [Run,dO]
 constructor
 . intro⟨_,_,_,a,b,c⟩;cases a;exact⟨b,c⟩
 . intro⟨b,c⟩;exact⟨_,_,_,rfl,b,c⟩
theorem uU{a os:List Oper}{o:Oper}{q i:Nat}{ps:List (Nat×Nat)}{tr:List (Nat×Tch)}:Run E R cx Q (.opsD a q ps (o::os) i tr::k) .normal l h↔ ∃b,bR a l.regs o=some b/\
 (if b=true then∃v h',ct E R (l.evD (tmpsOf o.op.operands.toList)) (er E q i o.op) o h=some (v,h')/\
     Run E R cx Q (.opsD a q ps os (i+1) (gU i tr (cb (l.evD (tmpsOf o.op.operands.toList)) (er E q i o.op) o.op h h'))::k) .normal (l.put o.dst v) h'
   else Run E R cx Q (.opsD a q ps os (i+1) tr::k) .normal (l.put o.dst (.tuple #[])) h):=by
 simp only [Run,dO]
 constructor
 . intro⟨l',h',tr',h1,h2,h3⟩
   cases hg:bR a l.regs o with
   |none=>rw [hg]at h1;cases h1
   | some b=>
     rw [hg]at h1
     refine⟨b,rfl,?_⟩
     cases b with
     |false=>rw [if_neg (by simp)];exact⟨l',h',tr',h1,h2,h3⟩
     | true=>
       rw [if_pos rfl]
       simp only []at h1
       cases hs:ct E R (l.evD (tmpsOf o.op.operands.toList)) (er E q i o.op) o h with
       |none=>rw [hs]at h1;cases h1
       |some p=>obtain⟨v,hh⟩:=p;rw [hs]at h1;exact⟨v,hh,rfl,l',h',tr',h1,h2,h3⟩
 . intro⟨b,hg,h2⟩
   rw [hg]
   cases b with
   |false=>rw [if_neg (by simp)]at h2;exact h2
   | true=>
     rw [if_pos rfl]at h2
     obtain⟨v,hh,hs,h2⟩:=h2
     simp only [hs]
     exact h2
end
end Go.Ab

namespace Go.Ab

noncomputable def envOf(fns:Tr Func)(tys:Tr TypeInfo)(eqs:List Nat):Env:={fn:=fun f=>fns.get f,ty:=fun t=>tys.get t,eqok:=fun t=>memb t eqs}

theorem vq{P:Program}{f:FuncId}{fn:Func}(hf:P.funcs[f]? =some fn)(hb:fn.body.isSome=true)(hn:(fn.name== "runtime.NumGoroutine")=false)(args:Array Value)(w:World):
 (callFunc f args).run P w=.ok (.enter f args) w:=by
 have hnone:fn.body.isNone=false:=by cases h:fn.body<;>simp_all
 unfold callFunc
 have hp:program.run P w=.ok P w:=rfl
 simp only [Sem.run_bind,hp,Result.andThen_ok,hf,hn,hnone,Bool.false_eq_true,if_false,Sem.run_pure]

theorem eok_of{P:Program}{fns:Tr Func}{tys:Tr TypeInfo}{eqs:List Nat}(h1:fns=Tr.ofList P.funcs.toList)(h2:tys=Tr.ofList P.types.toList)
 (h3:(P.funcs.toList.all fun fn=>fn.body.isNone|| !(fn.name== "runtime.NumGoroutine"))=true) (h4:(eqs.all fun t=>!P.stoodInHeld t&& !P.eqGuardType P.depth t)=true)
 (h5:P.follows .mixedOrders=true):EOk (envOf fns tys eqs) P where
 fn:=by
  intro f fn h
  have h':fns.get f=some fn:=h
  rw [h1,Tr.get_ofList]at h'
  simpa using h'
 call:=by
  intro f fn args w h hb
  have h':fns.get f=some fn:=h
  rw [h1,Tr.get_ofList]at h'
  have hm:=List.mem_of_getElem? h'
  have:=(List.all_eq_true.1 h3) fn hm
  refine vq (by simpa using h') hb ?_ args w
  cases hn:(fn.name== "runtime.NumGoroutine")with
  |false=>rfl
  |true=>rw [hn]at this;cases hx:fn.body<;>simp_all
 ty:=by
  intro t i h
  have h':tys.get t=some i:=h
  rw [h2,Tr.get_ofList]at h'
  show P.toTables.info? t=some i
  have hk:P.types[t]? =some i:=by simpa using h'
  unfold Tables.info?
  rw [if_pos (Array.getElem?_eq_some_iff.1 hk).1];exact hk
 eq:=by
  intro t h
  have hm:t∈eqs:=(lj t eqs).1 h
  have:=(List.all_eq_true.1 h4) t hm
  simp only [Bool.and_eq_true,Bool.not_eq_true']at this
  exact this
 mixed:=h5
 orc:=by
  intro g args v h
  cases h
noncomputable def oU(E:Env)(o:Nat->List Value->Option Value):Env:={E with orc:=o}
theorem eok_with{E:Env}{P:Program}(ok:EOk E P){o:Nat->List Value->Option Value}(ho: ∀g args v,o g args=some v->(∃fn,E.fn g=some fn/\fn.body.isSome=true)/\OrcAt P g args v):EOk (oU E o) P where
 fn:=ok.fn
 call:=ok.call
 ty:=ok.ty
 eq:=ok.eq
 mixed:=ok.mixed
 orc:=ho
end Go.Ab
namespace Go.Ab
open Go.ChangeShapes Go.WideShapes
variable{H:Type}{enc:TypeId×Value->H}{P:Program}
end Go.Ab

namespace Go.Ab

def dS(E:Env)(f:FuncId)(args:List Value)(rc:Option (Value×Bool))(h:Hp)(Q:Out->Option (Value×Bool)->Hp->Prop):Prop:= ∃o rc' h',(lim E).call f args rc h=some (o,rc',h')/\Q o rc' h'
def Ret(E:Env)(f:FuncId)(args:List Value)(h:Hp)(Q:Value->Hp->Prop):Prop:= ∃v h',(lim E).call f args none h=some (.ret v,none,h')/\Q v h'
theorem Ret.mono{E:Env}{f:FuncId}{args:List Value}{h:Hp}{Q Q':Value->Hp->Prop}(k: ∀v h',Q v h'->Q' v h')(r:Ret E f args h Q):Ret E f args h Q':=by
 obtain⟨v,h',a,b⟩:=r;exact⟨v,h',a,k v h' b⟩
def jS(E:Env)(b:Nat)(args:List Value)(h:Hp)(Q:Out->Hp->Prop):Prop:= ∃o h',iE E (lim E) b args h=some (o,h')/\Q o h'

section
variable(E:Env)(cx:Cx)(o:Oper)(l:Loc)(K:Ex->Loc->Hp->Prop)
def eA:Option (c9×Hp)->Prop
 |some (.val v,h')=>K .normal (l.put o.dst v) h'
 |some (.skip,h')=>K .normal (l.put o.dst (.tuple #[])) h'
 | some (.call f args,h')=>dS E f args none h' fun x _ h''=>match x with
   | .ret v=>K .normal (l.put o.dst v) h''
   | .pan v=>K (.pan v) l h''
 | some (.yield b args,h')=>jS E b args h' fun x h''=>match x with
   | .ret v=>K .normal (l.put o.dst v) h''
   | .pan v=>K (.pan v) l h''
 |some (.panic v,h')=>K (.pan v) l h'
 | some (.recov,h')=>cx.round=none/\match l.rc with
   |some (v,false)=>K .normal (({l with rc:=some (v,true)}:Loc).put o.dst v) h'
   |_=>K .normal (l.put o.dst .nilIface) h'
 |some (.defer d,h')=>cx.round=none/\K .normal (({l with dfs:=d::l.dfs}:Loc).put o.dst (.tuple #[])) h'
 |none=>False
end
section
variable{E:Env}{cx:Cx}{o:Oper}{l:Loc}{K:Ex->Loc->Hp->Prop}{h:Hp}
theorem then_step:Then (dz E (lim E) cx o l h) K↔eA E cx o l K (aop E l.ev h o.op):=by
 unfold dz
 cases hx:aop E l.ev h o.op with
 | none=>
   simp only [eA,cG,mb]
   exact⟨fun⟨_,_,_,h1,_⟩=>(by cases h1),fun h=>h.elim⟩
 | some q=>
   obtain⟨nx,h1⟩:=q
   cases nx with
   |val v=>exact gp
   |skip=>exact gp
   |panic v=>exact gp
   | call f args=>
     simp only [eA,cG,dS]
     constructor
     . intro⟨e,l',h',a,b⟩
       cases hc:(lim E).call f args none h1 with
       |none=>rw [hc]at a;cases a
       | some q=>
         obtain⟨x,rc,h2⟩:=q
         rw [hc]at a
         cases x<;>(cases a;exact⟨_,_,_,rfl,b⟩)
     . intro⟨x,rc,h2,a,b⟩
       rw [a]
       cases x<;>exact⟨_,_,_,rfl,b⟩
   | yield b args=>
     simp only [eA,cG,jS]
     constructor
     . intro⟨e,l',h',a,c⟩
       cases hc:iE E (lim E) b args h1 with
       |none=>rw [hc]at a;cases a
       | some q=>
         obtain⟨x,h2⟩:=q
         rw [hc]at a
         cases x<;>(cases a;exact⟨_,_,rfl,c⟩)
     . intro⟨x,h2,a,c⟩
       rw [a]
       cases x<;>exact⟨_,_,_,rfl,c⟩
   | recov=>
     simp only [eA]
     cases cx.round with
     |some r=>simp only [];exact⟨fun⟨_,_,_,h1,_⟩=>(by cases h1),fun h=>(by cases h.1)⟩
     | none=>
       simp only [true_and]
       cases l.rc with
       |none=>exact gp
       |some y=>obtain⟨v,b⟩:=y;cases b<;>exact gp
   | defer d=>
     simp only [eA]
     cases cx.round with
     |some r=>simp only [];exact⟨fun⟨_,_,_,h1,_⟩=>(by cases h1),fun h=>(by cases h.1)⟩
     |none=>simp only [true_and];exact gp
theorem uZ{v:Value}:eA E cx o l K (some (.val v,h))↔K .normal (l.put o.dst v) h:=zM
theorem tR:eA E cx o l K (some (.skip,h))↔K .normal (l.put o.dst (.tuple #[])) h:=zM
theorem tt{v:Value}:eA E cx o l K (some (.panic v,h))↔K (.pan v) l h:=zM
theorem step_ret{f:FuncId}{args:List Value}{Q:Value->Hp->Prop}(hr:Ret E f args h Q)(hk: ∀v h',Q v h'->K .normal (l.put o.dst v) h'):eA E cx o l K (some (.call f args,h)):=by
 obtain⟨v,h',a,b⟩:=hr
 exact⟨.ret v,none,h',a,hk v h' b⟩
end

def mQ(E:Env)(rs:List ResultVar)(Q:Out->Option (Value×Bool)->Hp->Prop):ey
 | .exit _,_,_=>False
 | .pan v,l,h=> ∃m h',bw (lim E) l.dfs (some v) h=some (m,h')/\match m with
   |some v=>Q (.pan v) l.rc h'
   |none=> ∃vs,aT E l.regs h' rs=some vs/\Q (.ret (ac vs)) l.rc h'
 | .normal,l,h=> ∃h',bw (lim E) l.dfs none h=some (none,h')/\ ∃vs,aT E l.regs h' rs=some vs/\Q (.ret (ac vs)) l.rc h'
 | .ret,l,h=> ∃h',bw (lim E) l.dfs none h=some (none,h')/\ ∃vs,aT E l.regs h' rs=some vs/\Q (.ret (ac vs)) l.rc h'

theorem enter{E:Env}{f:FuncId}{fn:Func}{body:Code}{n:Nat}{rs:List ResultVar}{args:List Value}{rc:Option (Value×Bool)}{h:Hp}{Q:Out->Option (Value×Bool)->Hp->Prop}
 (ho:E.orc f args=none) (hf:E.fn f=some fn) (hb:fn.body=some body) (hn:fn.ntmps=n) (hrs:fn.results.toList=rs) (hle:args.length<=n)
 (hr:Run E (lim E) ⟨f,n,none⟩ (mQ E rs Q) [.code body] .normal (LL n (cD args) [] rc) h):dS E f args rc h Q:=by
 obtain⟨e,l,h',h1,h2⟩:=hr
 simp only [Run]at h2
 unfold dS
 rw [call_eq]
 unfold ig
 rw [ho]
 simp only []
 unfold ju
 rw [hf]
 simp only []
 rw [hb]
 simp only []
 rw [hn,zT hle]
 simp only [cond_true]
 rw [args_tab hle]
 have hcode:(lim E).code ⟨f,n,none⟩ body ⟨tab n (cD args),[],rc⟩ h=some (e,l,h'):=by rw [tK];exact h1
 rw [hcode,hrs]
 cases e with
 |exit i=>exact h2.elim
 | pan v=>
   obtain⟨m,h3,a,b⟩:=h2
   simp only [a]
   cases m with
   |some v=>exact⟨_,_,_,rfl,b⟩
   |none=>obtain⟨vs,c,d⟩:=b;simp only [c];exact⟨_,_,_,rfl,d⟩
 |normal=>obtain⟨h3,a,vs,c,d⟩:=h2;simp only [a,c];exact⟨_,_,_,rfl,d⟩
 |ret=>obtain⟨h3,a,vs,c,d⟩:=h2;simp only [a,c];exact⟨_,_,_,rfl,d⟩
def RetQ(Q:Value->Hp->Prop):Out->Option (Value×Bool)->Hp->Prop
 | .ret v,none,h=>Q v h
 |_,_,_=>False
theorem ret_of{E:Env}{f:FuncId}{args:List Value}{h:Hp}{Q:Value->Hp->Prop}(hq:dS E f args none h (RetQ Q)):Ret E f args h Q:=by
 obtain⟨o,rc,h',a,b⟩:=hq
 cases o with
 |pan v=>exact b.elim
 | ret v=>cases rc with
   |none=>exact⟨v,h',a,b⟩
   |some y=>exact b.elim
theorem ab{E:Env}{f:FuncId}{fn:Func}{body:Code}{n:Nat}{rs:List ResultVar}{args:List Value}{h:Hp}{Q:Value->Hp->Prop}
 (ho:E.orc f args=none) (hf:E.fn f=some fn) (hb:fn.body=some body) (hn:fn.ntmps=n) (hrs:fn.results.toList=rs) (hle:args.length<=n)
 (hr:Run E (lim E) ⟨f,n,none⟩ (mQ E rs (RetQ Q)) [.code body] .normal (LL n (cD args) [] none) h):Ret E f args h Q:=ret_of (enter ho hf hb hn hrs hle hr)
theorem ret_orc{E:Env}{f:FuncId}{args:List Value}{h:Hp}{v:Value}{Q:Value->Hp->Prop}(ho:E.orc f args=some v)(hq:Q v h):Ret E f args h Q:=by
 refine⟨v,h,?_,hq⟩
 rw [call_eq]
 unfold ig
 rw [ho]
section
variable{E:Env}{rs:List ResultVar}{Q:Value->Hp->Prop}{n:Nat}{ρ:Nat->Value}{h:Hp}
theorem uj:mQ E rs (RetQ Q) .ret (LL n ρ [] none) h↔ ∃vs,aT E (tab n ρ) h rs=some vs/\Q (ac vs) h:=by
 simp only [mQ,LL,bw]
 constructor
 . intro⟨h',a,b⟩;cases a;exact b
 . intro b;exact⟨h,rfl,b⟩
theorem xC:mQ E rs (RetQ Q) .normal (LL n ρ [] none) h↔ ∃vs,aT E (tab n ρ) h rs=some vs/\Q (ac vs) h:=uj
theorem dZ{P:List Value->Prop}:(∃vs,aT E (tab n ρ) h []=some vs/\P vs)↔P []:=by
 simp only [aT]
 constructor
 . intro⟨_,a,b⟩;cases a;exact b
 . intro b;exact⟨_,rfl,b⟩
theorem fu{t:Tmp}{P:List Value->Prop}(ht:t<n):(∃vs,aT E (tab n ρ) h (.tmp t::rs)=some vs/\P vs)↔ ∃vs,aT E (tab n ρ) h rs=some vs/\P (ρ t::vs):=by
 simp only [aT,ku,if_pos ht]
 constructor
 . intro⟨vs,a,b⟩
   cases hr:aT E (tab n ρ) h rs with
   |none=>rw [hr]at a;cases a
   |some l=>rw [hr]at a;cases a;exact⟨l,rfl,b⟩
 . intro⟨vs,a,b⟩;rw [a];exact⟨_,rfl,b⟩
theorem dk{t:Tmp}{ty:TypeId}{v:Value}{P:List Value->Prop}(ht:t<n)(hv:eo E h ty (ρ t)=some v):(∃vs,aT E (tab n ρ) h (.cell t ty::rs)=some vs/\P vs)↔ ∃vs,aT E (tab n ρ) h rs=some vs/\P (v::vs):=by
 simp only [aT,ku,if_pos ht,hv]
 constructor
 . intro⟨vs,a,b⟩
   cases hr:aT E (tab n ρ) h rs with
   |none=>rw [hr]at a;cases a
   |some l=>rw [hr]at a;cases a;exact⟨l,rfl,b⟩
 . intro⟨vs,a,b⟩;rw [a];exact⟨_,rfl,b⟩
end
end Go.Ab

namespace Go.Ab

structure Gr(h h':Hp):Prop where
 ok0:h.t.Sized h.n
 ok:h'.t.Sized h'.n
 n:h.n<=h'.n
 get: ∀b,b<h.n->h'.get b=h.get b
 lo: ∀x,x<=h.n->x<=h.lo->x<=h'.lo
theorem Gr.refl{h:Hp}(ok:h.t.Sized h.n):Gr h h:=⟨ok,ok,zU _,fun _ _=>rfl,fun _ _ h=>h⟩
theorem Gr.trans{a b c:Hp}(x:Gr a b)(y:Gr b c):Gr a c:=
 ⟨x.ok0,y.ok,Nat.le_trans x.n y.n,fun i hi=>(y.get i (Nat.lt_of_lt_of_le hi x.n)).trans (x.get i hi),fun i h1 h2=>y.lo i (Nat.le_trans h1 x.n) (x.lo i h1 h2)⟩
theorem new_ok{h:Hp}(ok:h.t.Sized h.n)(x:Blk):(h.new x).t.Sized (h.new x).n:=Tr.sized_push x ok
theorem put_ok{h:Hp}(ok:h.t.Sized h.n)(b:Nat)(x:Blk):(h.put b x).t.Sized (h.put b x).n:=Tr.sized_set b x ok
theorem Gr.new{h:Hp}(ok:h.t.Sized h.n)(x:Blk):Gr h (h.new x):=
 ⟨ok,new_ok ok x,Nat.le_succ _,fun b hb=>by rw [h.get_new x ok,if_neg (by omega)],fun _ _ h=>h⟩
theorem Gr.put{a h:Hp}(g:Gr a h){b:Nat}(hb:a.n<=b)(x:Blk):Gr a (h.put b x):=by
 refine⟨g.ok0,put_ok g.ok b x,g.n,fun i hi=>?_,fun i h1 h2=>?_⟩
 . rw [Hp.get_put,if_neg (fun e=>by omega)];exact g.get i hi
 . have:=g.lo i h1 h2
   show i<=dL b h.lo
   unfold dL
   cases zN b h.lo<;>simp<;>omega
theorem fm{h:Hp}(ok:h.t.Sized h.n){b:Nat}{x:Blk}(e:h.get b=some x):b<h.n:=(ok b).1 (by show(h.get b).isSome=true;rw [e];rfl)
theorem Gr.at{h h':Hp}(g:Gr h h'){b:Nat}{x:Blk}(e:h.get b=some x):h'.get b=some x:=by rw [g.get b (fm g.ok0 e)];exact e
theorem bI{h:Hp}(ok:h.t.Sized h.n){b o n:Nat}{l:List Value}(e:h.load b o n=some l):b<h.n:=by
 unfold Hp.load at e
 split at e
 next hg=>exact fm ok hg
 next=>cases e
theorem Gr.load{h h':Hp}(g:Gr h h'){b o n:Nat}{l:List Value}(e:h.load b o n=some l):h'.load b o n=some l:=by
 have:=g.get b (bI g.ok0 e)
 unfold Hp.load at e⊢
 rw [this];exact e
theorem Gr.hlo{h h':Hp}(g:Gr {h with lo:=h.n} h'):zN h.n h'.lo=true:=zT (g.lo h.n (zU _) (zU _))

def Row(h:Hp)(b:Nat)(l:List Value)(md:Nat):Prop:= ∃t el,h.get b=some (.cells t l.length el md)/\t.Sized l.length/\ ∀i:Nat,t.get i=l[i]?
theorem Row.gr{h h':Hp}(g:Gr h h'){b:Nat}{l:List Value}{md:Nat}(r:Row h b l md):Row h' b l md:=by
 obtain⟨t,el,a,b,c⟩:=r;exact⟨t,el,g.at a,b,c⟩
theorem Row.lt{h:Hp}(ok:h.t.Sized h.n){b:Nat}{l:List Value}{md:Nat}(r:Row h b l md):b<h.n:=by
 obtain⟨t,el,a,_,_⟩:=r;exact fm ok a
theorem vJ{α:Type}{t:Tr α}{l:List α}(ht: ∀i:Nat,t.get i=l[i]?): ∀(n o:Nat),o+n<=l.length->t.slice o n=some ((l.drop o).take n)
 |0,o,_=>by simp [Tr.slice]
 | n+1,o,h=>by
   simp only [Tr.slice]
   have:l[o]? =some l[o]:=List.getElem?_eq_getElem (by omega)
   rw [ht o,this,vJ ht n (o+1) (by omega)]
   simp only []
   congr 1
   rw [show List.drop o l=l[o]::List.drop (o+1) l from Xb (by omega)]
   rfl
theorem Row.load{h:Hp}{b:Nat}{l:List Value}{md:Nat}(r:Row h b l md){o n:Nat}(hn:o+n<=l.length):h.load b o n=some ((l.drop o).take n):=by
 obtain⟨t,el,a,_,c⟩:=r
 unfold Hp.load
 rw [a]
 simp only []
 rw [zT hn]
 exact vJ c n o hn
theorem Row.load1{h:Hp}{b:Nat}{l:List Value}{md:Nat}(r:Row h b l md){o:Nat}{v:Value}(hv:l[o]? =some v):h.load b o 1=some [v]:=by
 have hlt:=(List.getElem?_eq_some_iff.1 hv).1
 rw [r.load (by omega)]
 congr 1
 rw [Xb hlt]
 have:=(List.getElem?_eq_some_iff.1 hv).2
 simp [this]
theorem mU{h:Hp}(ok:h.t.Sized h.n)(l:List Value)(el md:Nat):Row (h.new (.cells (Tr.ofList l) l.length el md)) h.n l md:=
 ⟨Tr.ofList l,el,by rw [h.get_new _ ok,if_pos rfl],Tr.sized_ofList l,fun i=>Tr.get_ofList l i⟩
def lay(l:List Value)(o:Nat)(vs:List Value):List Value:=l.take o++vs++l.drop (o+vs.length)
theorem mE{l:List Value}{o:Nat}{vs:List Value}(h:o+vs.length<=l.length):(lay l o vs).length=l.length:=by simp [lay];omega
theorem iW{l:List Value}{o:Nat}{vs:List Value}(h:o+vs.length<=l.length)(i:Nat):(lay l o vs)[i]? =if o<=i/\i<o+vs.length then vs[i-o]? else l[i]? :=by
 unfold lay
 by_cases h1:i<o
 . rw [Xa,zV (by simp;omega),List.getElem?_take,if_pos h1,if_neg (by omega)]
 . by_cases h2:i<o+vs.length
   . rw [Xa,zO (by simp;omega),zV (by simp;omega),if_pos (by omega)]
     congr 1
     simp;omega
   . rw [Xa,zO (by simp;omega),zO (by simp;omega),if_neg (by omega),List.getElem?_drop]
     congr 1
     simp;omega
theorem Row.store{h:Hp}(ok:h.t.Sized h.n){b:Nat}{l:List Value}{md:Nat}(r:Row h b l md)(hmd:md≠0){o:Nat}{vs:List Value}(ho:o+vs.length<=l.length)(hv:vs.all iM=true):
 ∃x,h.store b o vs=some (h.put b x)/\Row (h.put b x) b (lay l o vs) md:=by
 obtain⟨t,el,a,d,c⟩:=r
 refine⟨.cells (t.setAll o vs) l.length el md,?_,?_⟩
 . unfold Hp.store
   rw [a]
   simp only []
   have hb:zR md 0=false:=by
    cases hx:zR md 0 with
    |false=>rfl
    |true=>exact absurd (zS hx) hmd
   rw [zT ho,hb,hv]
   rfl
 . refine⟨t.setAll o vs,el,?_,?_,fun i=>?_⟩
   . rw [Hp.get_put,if_pos ⟨rfl,by rw [a];rfl⟩,mE ho]
   . rw [mE ho];exact Tr.sized_setAll o vs d
   . rw [Tr.get_setAll t o vs l.length d ho,iW ho,c]
end Go.Ab

namespace Go.Ab

theorem pop_ext {E:Env} {op:Op} {ρ ρ':Operand->Value} (e: ∀x∈op.operands.toList,ρ x=ρ' x):pop E ρ op=pop E ρ' op:=by
 cases op
 case build t ps=>
  simp only [pop]
  congr 1
  apply zQ
  intro p hp
  rw [e p.2 (by simp only [Op.operands];simp;exact⟨p.1,by simpa using hp⟩)]
 case makeFunc fn a b=>
  cases fn<;>(try rfl)
  simp only [pop]
  have h1:a.map ρ=a.map ρ':=by
   apply Xe
   intro x hx
   exact e x (by simp only [Op.operands];simp;exact .inl hx)
  have h2:b.map ρ=b.map ρ':=by
   apply Xe
   intro x hx
   exact e x (by simp only [Op.operands];simp;exact .inr hx)
  rw [h1,h2]
 case slice t x l h m=>
  simp only [pop]
  have hx:=e x (by simp [Op.operands])
  have hl:l.map ρ=l.map ρ':=by cases l with|none=>rfl|some y=>simp [e y (by simp [Op.operands])]
  have hh:h.map ρ=h.map ρ':=by cases h with|none=>rfl|some y=>simp [e y (by simp [Op.operands])]
  have hm:m.map ρ=m.map ρ':=by cases m with|none=>rfl|some y=>simp [e y (by simp [Op.operands])]
  rw [hx,hl,hh,hm]
 case call c=>
  have ha:c.args.toList.map ρ=c.args.toList.map ρ':=by
   apply zQ
   intro x hx
   refine e x ?_
   simp only [Op.operands,Call.operands]
   cases c.callee<;>simp_all
  cases hc:c.callee with
  |value f=>simp only [pop,hc]
  |invoke r n=>simp only [pop,hc]
  | builtin b=>
    cases b<;>simp only [pop,hc]<;>(try rfl)
    . cases hl:c.args.toList with
      |nil=>cases c.argTypes.toList<;>rfl
      | cons x xs=>
        have hx:ρ x=ρ' x:=e x (by
         have:x∈c.args.toList:=by rw [hl];exact zZ
         simp only [Op.operands,Call.operands,hc];simpa using this)
        cases c.argTypes.toList with
        |nil=>rfl
        |cons t ts=>simp only [hx]
    . rw [ha]
    . rw [ha]
 all_goals (try rfl)
 all_goals first
  |(unfold Op.operands at e;simp at e;simp only [pop];simp [e];done)
  |(simp only [pop];done)
  |(cases ‹Fn› <;>simp only [pop];done)

theorem qT{E:Env}{op:Op}{h:Hp}{ρ ρ':Operand->Value}(e: ∀x∈op.operands.toList,ρ x=ρ' x):aop E ρ h op=aop E ρ' h op:=by
 have hp:=pop_ext (E:=E) e
 cases op
 case buildSlice t n ps=>
  simp only [aop]
  congr 2
  apply zQ
  intro p hp
  rw [e p.2 (by simp only [Op.operands];simp;exact⟨p.1,by simpa using hp⟩)]
 case makeMap t r=>cases r<;>simp only [aop,hp]
 case call c=>
  have ha:c.args.toList.map ρ=c.args.toList.map ρ':=by
   apply zQ
   intro x hx
   refine e x ?_
   simp only [Op.operands,Call.operands]
   cases c.callee<;>simp_all
  have hx: ∀x∈c.args.toList,ρ x=ρ' x:=by
   intro x hx
   refine e x ?_
   simp only [Op.operands,Call.operands]
   cases c.callee<;>simp_all
  cases hc:c.callee with
  | value f=>
    have hf:ρ f=ρ' f:=e f (by simp [Op.operands,Call.operands,hc])
    simp only [aop,hc,ha,hf]
  |invoke r n=>simp only [aop,hc]
  | builtin b=>
    cases b<;>simp only [aop,hc,hp]<;>(try rfl)
    all_goals (cases hl:c.args.toList with
     |nil=>first|rfl|(cases c.argTypes.toList<;>rfl)
     | cons s xs=>
       simp only [hl]at hx
       have h1:=hx s zZ
       cases xs with
       |nil=>first|rfl|(cases c.argTypes.toList<;>rfl)|simp only [h1]
       | cons y ys=>
         have h2:=hx y (List.mem_cons_of_mem _ zZ)
         first|rfl|(simp only [h1,h2];done)|(simp only [h1];done)|(cases c.argTypes.toList with
          |nil=>rfl
          |cons t ts=>simp only [h1,h2]))
 case defer c=>
  have ha:c.args.toList.map ρ=c.args.toList.map ρ':=by
   apply zQ
   intro x hx
   refine e x ?_
   simp only [Op.operands,Call.operands]
   cases c.callee<;>simp_all
  cases hc:c.callee with
  | value f=>
    have hf:ρ f=ρ' f:=e f (by simp [Op.operands,Call.operands,hc])
    simp only [aop,hc,ha,hf]
  |invoke r n=>simp only [aop,hc]
  |builtin b=>simp only [aop,hc]
 all_goals first
  |(simp only [aop];done)
  |(simp only [aop,hp];done)
  |(unfold Op.operands at e;simp at e;simp only [aop,e];done)
theorem touch_ext{op:Op}{ρ ρ':Operand->Value}(e: ∀x∈op.operands.toList,ρ x=ρ' x):touch ρ op=touch ρ' op:=by
 cases op
 case call c=>
  simp only [touch]
  cases hl:c.args.toList with
  |nil=>rfl
  | cons x xs=>
    simp only []
    rw [e x (by simp only [Op.operands,Call.operands];cases c.callee<;>simp_all)]
 all_goals first
  |rfl
  |(unfold Op.operands at e;simp at e;simp only [touch,e];done)
  |(simp only [touch];done)
theorem qz(l:Loc)(op:Op): ∀x∈op.operands.toList,l.evD (tmpsOf op.operands.toList) x=l.ev x:=by
 intro x hx
 cases x with
 | tmp t=>
   simp only [Loc.evD]
   rw [(lj t _).2 ((pk t _).2 hx)]
   rfl
 |_=>rfl

def jk(E:Env)(K:Value->Hp->Prop):Option (c9×Hp)->Prop
 |some (.val v,h')=>K v h'
 |some (.skip,h')=>K (.tuple #[]) h'
 | some (.call f args,h')=>dS E f args none h' fun x _ h''=>match x with
   | .ret v=>K v h''
   | .pan _=>False
 | some (.yield b args,h')=>jS E b args h' fun x h''=>match x with
   | .ret v=>K v h''
   | .pan _=>False
 |_=>False
theorem opVal_n{E:Env}{x:Option (c9×Hp)}{K:Value->Hp->Prop}:(∃v h',cG E (lim E) x=some (.ret v,h')/\K v h')↔jk E K x:=by
 cases x with
 |none=>exact⟨fun⟨_,_,a,_⟩=>(by cases a),fun h=>h.elim⟩
 | some q=>
   obtain⟨nx,h1⟩:=q
   cases nx with
   |val v=>exact⟨fun⟨_,_,a,b⟩=>(by cases a;exact b),fun h=>⟨_,_,rfl,h⟩⟩
   |skip=>exact⟨fun⟨_,_,a,b⟩=>(by cases a;exact b),fun h=>⟨_,_,rfl,h⟩⟩
   |panic v=>exact⟨fun⟨_,_,a,_⟩=>(by cases a),fun h=>h.elim⟩
   |recov=>exact⟨fun⟨_,_,a,_⟩=>(by cases a),fun h=>h.elim⟩
   |defer d=>exact⟨fun⟨_,_,a,_⟩=>(by cases a),fun h=>h.elim⟩
   | call f args=>
     simp only [jk,cG,dS]
     constructor
     . intro⟨v,h',a,b⟩
       cases hc:(lim E).call f args none h1 with
       |none=>rw [hc]at a;cases a
       |some q=>obtain⟨x,rc,h2⟩:=q;rw [hc]at a;cases a;exact⟨_,_,_,rfl,b⟩
     . intro⟨x,rc,h2,a,b⟩
       rw [a]
       cases x with
       |ret v=>exact⟨_,_,rfl,b⟩
       |pan v=>exact b.elim
   | yield b args=>
     simp only [jk,cG,jS]
     constructor
     . intro⟨v,h',a,c⟩;exact⟨_,_,a,c⟩
     . intro⟨x,h2,a,c⟩
       cases x with
       |ret v=>exact⟨_,_,a,c⟩
       |pan v=>exact c.elim
theorem stepD_iff{E:Env}{l:Loc}{quiet:Bool}{o:Oper}{h:Hp}{K:Value->Hp->Prop}:(∃v h',ct E (lim E) (l.evD (tmpsOf o.op.operands.toList)) quiet o h=some (v,h')/\K v h')↔
 (if quiet=true then jk E (fun v h'=>zN h.n h'.lo=true/\K v {h' with lo:=h.lo}) (aop E l.ev {h with lo:=h.n} o.op)else jk E K (aop E l.ev h o.op)):=by
 have e:=qz l o.op
 unfold ct
 cases quiet with
 | false=>
   rw [if_neg (by simp)]
   simp only [cond_false]
   rw [qT e,<-opVal_n]
   constructor
   . intro⟨v,h',a,b⟩
     cases hx:cG E (lim E) (aop E l.ev h o.op)with
     |none=>rw [hx]at a;cases a
     |some q=>obtain⟨x,h2⟩:=q;rw [hx]at a;cases x<;>cases a;exact⟨_,_,rfl,b⟩
   . intro⟨v,h',a,b⟩;rw [a];exact⟨_,_,rfl,b⟩
 | true=>
   rw [if_pos rfl]
   simp only [cond_true]
   rw [qT e,<-opVal_n]
   constructor
   . intro⟨v,h',a,b⟩
     cases hx:cG E (lim E) (aop E l.ev {h with lo:=h.n} o.op)with
     |none=>rw [hx]at a;cases a
     | some q=>
       obtain⟨x,h2⟩:=q
       rw [hx]at a
       cases x with
       |pan v=>cases a
       | ret v=>
         simp only []at a
         cases hb:zN h.n h2.lo with
         |false=>rw [hb]at a;cases a
         |true=>rw [hb]at a;cases a;exact⟨_,_,rfl,hb,b⟩
   . intro⟨v,h',a,hb,b⟩
     rw [a]
     simp only [hb,cond_true]
     exact⟨_,_,rfl,b⟩
theorem zH{op:Op}{ρ ρ':Operand->Value}{b:Bool}{h h':Hp}(e: ∀x∈op.operands.toList,ρ x=ρ' x):cb ρ b op h h'=cb ρ' b op h h':=by
 unfold cb iP;rw [touch_ext e]
theorem run_opsD{E:Env}{cx:Cx}{Q:ey}{k:List Fr}{l:Loc}{h:Hp}{a os:List Oper}{o:Oper}{q i:Nat}{ps:List (Nat×Nat)}{tr:List (Nat×Tch)}:Run E (lim E) cx Q (.opsD a q ps (o::os) i tr::k) .normal l h↔ ∃b,bR a l.regs o=some b/\
 (if b =true then(if er E q i o.op=true then
       jk E (fun v h'=>zN h.n h'.lo=true/\Run E (lim E) cx Q (.opsD a q ps os (i+1) (gU i tr (cb l.ev true o.op h h))::k) .normal (l.put o.dst v) {h' with lo:=h.lo}) (aop E l.ev {h with lo:=h.n} o.op)
     else jk E (fun v h'=>Run E (lim E) cx Q (.opsD a q ps os (i+1) (gU i tr (cb l.ev false o.op h h'))::k) .normal (l.put o.dst v) h') (aop E l.ev h o.op))
   else Run E (lim E) cx Q (.opsD a q ps os (i+1) tr::k) .normal (l.put o.dst (.tuple #[])) h):=by
 rw [uU]
 simp only [zH (qz l o.op),stepD_iff]
 cases er E q i o.op with
 | true=>
   simp only [if_pos]
   exact zM
 |false=>exact zM
theorem qx{E:Env}{K:Value->Hp->Prop}{f:FuncId}{args:List Value}{h:Hp}{Q:Value->Hp->Prop}(hr:Ret E f args h Q)(hk: ∀v h',Q v h'->K v h'):jk E K (some (.call f args,h)):=by
 obtain⟨v,h',a,b⟩:=hr
 exact⟨.ret v,none,h',a,hk v h' b⟩
end Go.Ab

namespace Go.Ab
noncomputable section
abbrev Opt:=Option (Ex×Loc×Hp)

def getK{α:Type}(t:Tr α):Nat->Option α:=Tr.rec (motive:=fun _=>Nat->Option α) (fun _=>none)
 (fun x _ _ gl gr i=>Nat.rec (some x) (fun n _=>Bool.rec (gr (n/2)) (gl (n/2)) (zR (n%2) 0)) i) t
def setK{α:Type}(t:Tr α):Nat->α->Tr α:=Tr.rec (motive:=fun _=>Nat->α->Tr α) (fun _ _=>.nil)
 (fun y l r sl sr i x=>Nat.rec (.node x l r) (fun n _=>Bool.rec (.node y l (sr (n/2) x)) (.node y (sl (n/2) x) r) (zR (n%2) 0)) i) t
def fJ(l:Loc)(d:Option Tmp)(v:Value):Loc:=Option.rec l (fun t=>Loc.mk (setK l.regs t v) l.dfs l.rc) d
def evK(l:Loc)(x:Operand):Value:=Operand.rec (motive:=fun _=>Loc->Value) (fun t l=>Option.rec (.tuple #[]) (fun v=>v) (getK l.regs t)) (fun v _=>Bool.rec poison v (cg v))
 (fun g _=>Bool.rec poison (.pointer (some ⟨g,0,none⟩)) (Xc g 16)) (fun f _=>.func (.func f) #[] #[]) x l
def exK(e:Ex):(Loc->Hp->Opt)->(Ex->Loc->Hp->Opt)->Loc->Hp->Opt:=Ex.rec (motive:=fun _=>(Loc->Hp->Opt)->(Ex->Loc->Hp->Opt)->Loc->Hp->Opt)
 (fun kn _ l h=>kn l h) (fun id _ ka l h=>ka (.exit id) l h) (fun _ ka l h=>ka .ret l h) (fun v _ ka l h=>ka (.pan v) l h) e
def dH(x:Opt)(kn:Loc->Hp->Opt)(ka:Ex->Loc->Hp->Opt):Opt:=Option.rec none (fun q=>Prod.rec (fun e q2=>Prod.rec (fun l h=>exK e kn ka l h) q2) q) x
def asInt:Value->Option (IntKind×Int)
 | .int k n=>some (k,n)
 |_=>none
abbrev BM:=IntKind->Int->IntKind->Int->Option Value->Option Value
def arK(f:IntKind->Int->Int->Option Value):BM:=fun k m k' n _=>Bool.rec none (f k m n) (jX k k')
def binI(op:BinOp):BM:=BinOp.rec (motive:=fun _=>BM)
 (add:=arK fun k x y=>some (.int k (aq k (x+y)))) (sub:=arK fun k x y=>some (.int k (aq k (x-y)))) (mul:=arK fun k x y=>some (.int k (aq k (x*y))))
 (quo:=fun _ _ _ _ s=>s) (rem:=fun _ _ _ _ s=>s) (and:=fun _ _ _ _ s=>s) (or:=fun _ _ _ _ s=>s) (xor:=fun _ _ _ _ s=>s) (andNot:=fun _ _ _ _ s=>s) (shl:=fun _ _ _ _ s=>s) (shr:=fun _ _ _ _ s=>s)
 (eql:=arK fun _ x y=>some (.bool (iC x y))) (neq:=arK fun _ x y=>some (.bool (!iC x y))) (lss:=arK fun _ x y=>some (.bool (kE x y))) (leq:=arK fun _ x y=>some (.bool (!kE y x)))
 (gtr:=arK fun _ x y=>some (.bool (kE y x))) (geq:=arK fun _ x y=>some (.bool (!kE x y))) op
def binK(E:Env)(op:BinOp)(t:TypeId)(x y:Operand)(a b:Value):Option Value:=
 Option.rec (bq E op t x y a b) (fun p=>Option.rec (bq E op t x y a b) (fun q=>binI op p.1 p.2 q.1 q.2 (bq E op t x y a b)) (asInt b)) (asInt a)
abbrev OpM:=Env->Rec->Cx->Option Tmp->Loc->Hp->(Loc->Hp->Opt)->(Ex->Loc->Hp->Opt)->Opt
def jf(r:Option Value)(d:Option Tmp)(l:Loc)(h:Hp)(kn:Loc->Hp->Opt):Opt:=Option.rec none (fun v=>kn (fJ l d v) h) r
def retHK(r:Option (Hp×Value))(d:Option Tmp)(l:Loc)(kn:Loc->Hp->Opt):Opt:=Option.rec none (fun p=>Prod.rec (fun h v=>kn (fJ l d v) h) p) r
def qM(r:Option Hp)(d:Option Tmp)(l:Loc)(kn:Loc->Hp->Opt):Opt:=Option.rec none (fun h=>kn (fJ l d (.tuple #[])) h) r
def cK(op:Op):OpM:=fun E R cx d l h kn ka=>dH (dz E R cx ⟨d,op,0,"",#[],none⟩ l h) kn ka
def outK(o:Out):Option Tmp->Loc->Hp->(Loc->Hp->Opt)->(Ex->Loc->Hp->Opt)->Opt:=Out.rec (motive:=fun _=>Option Tmp->Loc->Hp->(Loc->Hp->Opt)->(Ex->Loc->Hp->Opt)->Opt)
 (fun v d l h kn _=>kn (fJ l d v) h) (fun v _ l h _ ka=>ka (.pan v) l h) o
def resK(r:Option (Out×Option (Value×Bool)×Hp))(d:Option Tmp)(l:Loc)(kn:Loc->Hp->Opt)(ka:Ex->Loc->Hp->Opt):Opt:=Option.rec none (fun q=>Prod.rec (fun o q2=>Prod.rec (fun _ h=>outK o d l h kn ka) q2) q) r
def asFn:Value->Option (FuncId×Array Value×Array Value)
 | .func (.func g) a b=>some (g,a,b)
 |_=>none
def callK(c:Call):OpM:=fun E R cx d l h kn ka=>Callee.rec (motive:=fun _=>Opt)
 (fun f=>Option.rec (cK (.call c) E R cx d l h kn ka) (fun p=>resK (R.call p.1 (p.2.1.toList++c.args.toList.map (evK l)++p.2.2.toList) none h) d l kn ka) (asFn (evK l f)))
 (fun _ _=>cK (.call c) E R cx d l h kn ka) (fun _=>cK (.call c) E R cx d l h kn ka) c.callee
def opK(op:Op):OpM:=Op.rec (motive:=fun _=>OpM)
 (move:=fun x _ _ _ d l h kn _=>kn (fJ l d (evK l x)) h)
 (assign:=fun x _ _ _ d l h kn _=>kn (fJ l d (evK l x)) h)
 (pick:=fun c a b=>cK (.pick c a b))
 (alloc:=fun e=>cK (.alloc e))
 (box:=fun e v=>cK (.box e v))
 (build:=fun t ps=>cK (.build t ps))
 (buildSlice:=fun t n ps=>cK (.buildSlice t n ps))
 (insert:=fun t m k v=>cK (.insert t m k v))
 (load:=fun t a E _ _ d l h kn _=>jf (eo E h t (evK l a)) d l h kn)
 (store:=fun t a v E _ _ d l h kn _=>qM (ie E h t (evK l a) (evK l v)) d l kn)
 (ready:=fun g=>cK (.ready g))
 (waits:=fun g=>cK (.waits g))
 (nilCheck:=fun x=>cK (.nilCheck x))
 (binOp:=fun op t x y u E _ _ d l h kn _=>jf (binK E op t x y (evK l x) (evK l y)) d l h kn)
 (unOp:=fun op t x E _ _ d l h kn _=>jf (unP op (evK l x)) d l h kn)
 (convert:=fun s t x=>cK (.convert s t x))
 (sliceToArrayPointer:=fun t x=>cK (.sliceToArrayPointer t x))
 (makeInterface:=fun t x=>cK (.makeInterface t x))
 (makeFunc:=fun f a b=>cK (.makeFunc f a b))
 (makeMap:=fun t r=>cK (.makeMap t r))
 (makeChan:=fun t s=>cK (.makeChan t s))
 (makeSlice:=fun t a c=>cK (.makeSlice t a c))
 (slice:=fun t x a b c=>cK (.slice t x a b c))
 (fieldAddr:=fun s x i E _ _ d l h kn _=>jf (ah E s (evK l x) i) d l h kn)
 (field:=fun t x i E _ _ d l h kn _=>jf (ar E t (evK l x) i) d l h kn)
 (indexAddr:=fun t x i E _ _ d l h kn _=>jf (dR E t (evK l x) (evK l i)) d l h kn)
 (index:=fun t x i E _ _ d l h kn _=>jf (iS E t (evK l x) (evK l i)) d l h kn)
 (lookup:=fun t m k ok E _ _ d l h kn _=>jf (dq E h t (evK l m) (evK l k) ok) d l h kn)
 (mapUpdate:=fun t m k v E _ _ d l h kn _=>qM (jq E h t (evK l m) (evK l k) (evK l v)) d l kn)
 (mapEntry:=fun t m k E _ _ d l h kn _=>retHK (iR E h t (evK l m) (evK l k)) d l kn)
 (entryStore:=fun t m s v=>cK (.entryStore t m s v))
 (range:=fun t x=>cK (.range t x))
 (next:=fun i s=>cK (.next i s))
 (entry:=fun i=>cK (.entry i))
 (typeAssert:=fun x s t ok=>cK (.typeAssert x s t ok))
 (extract:=fun t i=>cK (.extract t i))
 (call:=fun c=>callK c)
 (go:=fun c=>cK (.go c))
 (defer:=fun c=>cK (.defer c))
 (panic:=fun x=>cK (.panic x))
 (send:=fun c x=>cK (.send c x))
 (recv:=fun t c ok=>cK (.recv t c ok))
 (select:=fun cs b=>cK (.select cs b)) op
def oX(ops:List Oper)(l:Loc)(o:Oper):Option Bool:=Option.rec (some true) (fun _=>bR ops l.regs o) o.guard
def opsK(E:Env)(R:Rec)(cx:Cx)(ops:List Oper)(kn:Loc->Hp->Opt)(ka:Ex->Loc->Hp->Opt)(os:List Oper):Loc->Hp->Opt:=List.rec (motive:=fun _=>Loc->Hp->Opt) kn
 (fun o _ ih l h=>Option.rec none (fun b=>Bool.rec (ih (fJ l o.dst (.tuple #[])) h) (opK o.op E R cx o.dst l h ih ka) b) (oX ops l o)) os
def oI(op:Op):Bool:=Op.rec (motive:=fun _=>Bool)
 (move:=fun _=>true) (assign:=fun _=>true) (pick:=fun _ _ _=>false) (alloc:=fun _=>false) (box:=fun _ _=>false) (build:=fun _ _=>false) (buildSlice:=fun _ _ _=>false)
 (insert:=fun _ _ _ _=>false) (load:=fun _ _=>true) (store:=fun _ _ _=>true) (ready:=fun _=>false) (waits:=fun _=>false) (nilCheck:=fun _=>false) (binOp:=fun _ _ _ _ _=>true)
 (unOp:=fun _ _ _=>true) (convert:=fun _ _ _=>false) (sliceToArrayPointer:=fun _ _=>false) (makeInterface:=fun _ _=>false) (makeFunc:=fun _ _ _=>false) (makeMap:=fun _ _=>false)
 (makeChan:=fun _ _=>false) (makeSlice:=fun _ _ _=>false) (slice:=fun _ _ _ _ _=>false) (fieldAddr:=fun _ _ _=>true) (field:=fun _ _ _=>true) (indexAddr:=fun _ _ _=>true) (index:=fun _ _ _=>true)
 (lookup:=fun _ _ _ _=>true) (mapUpdate:=fun _ _ _ _=>true) (mapEntry:=fun _ _ _=>true) (entryStore:=fun _ _ _ _=>false) (range:=fun _ _=>false) (next:=fun _ _=>false) (entry:=fun _=>false)
 (typeAssert:=fun _ _ _ _=>false) (extract:=fun _ _=>false) (call:=fun _=>false) (go:=fun _=>false) (defer:=fun _=>false) (panic:=fun _=>false) (send:=fun _ _=>false) (recv:=fun _ _ _=>false)
 (select:=fun _ _=>false) op
def pd(E:Env)(q i:Nat)(op:Op):Bool:=Bool.rec (Bool.rec false (zN 3 (cls E op)) (Nat.testBit q i)) false (zR q 0)
def outDK(o:Out):(Value->Hp->Opt)->Hp->Opt:=Out.rec (motive:=fun _=>(Value->Hp->Opt)->Hp->Opt) (fun v k h=>k v h) (fun _ _ _=>none) o
def resDK(r:Option (Out×Option (Value×Bool)×Hp))(k:Value->Hp->Opt):Opt:=Option.rec none (fun q=>Prod.rec (fun o q2=>Prod.rec (fun _ h=>outDK o k h) q2) q) r
def jR(E:Env)(R:Rec)(qb:Bool)(o:Oper)(l:Loc)(h:Hp)(k:Value->Hp->Opt):Opt:=Option.rec none (fun p=>k p.1 p.2) (ct E R l.ev qb o h)
def sH(h:Hp)(k:Value->Hp->Opt)(v:Value)(h':Hp):Opt:=Bool.rec none (k v {h' with lo:=h.lo}) (zN h.n h'.lo)
def callDK(E:Env)(R:Rec)(qb:Bool)(o:Oper)(c:Call)(l:Loc)(h:Hp)(k:Value->Hp->Opt):Opt:=Callee.rec (motive:=fun _=>Opt)
 (fun f=>Option.rec (jR E R qb o l h k) (fun p=>Bool.rec (resDK (R.call p.1 (p.2.1.toList++c.args.toList.map (evK l)++p.2.2.toList) none h) k)
   (resDK (R.call p.1 (p.2.1.toList++c.args.toList.map (evK l)++p.2.2.toList) none {h with lo:=h.n}) (sH h k)) qb) (asFn (evK l f)))
 (fun _ _=>jR E R qb o l h k) (fun _=>jR E R qb o l h k) c.callee
def asCall(op:Op):Option Call:=match op with
 | .call c=>some c
 |_=>none
def se(E:Env)(R:Rec)(qb:Bool)(o:Oper)(l:Loc)(h:Hp)(k:Value->Hp->Opt):Opt:=Option.rec (jR E R qb o l h k) (fun c=>callDK E R qb o c l h k) (asCall o.op)
def tw(l:Loc)(op:Op):Option Tch:=match touch (l.evD (tmpsOf op.operands.toList)) op with
 |none=>none
 |some b=>some (.blk b)
abbrev DM:=Nat->Loc->Hp->List (Nat×Tch)->Opt
def sW (E:Env) (R:Rec) (cx:Cx) (q:Nat) (o:Oper) (ih:DM) (i:Nat) (l:Loc) (h:Hp) (tr:List (Nat×Tch)):Opt:=
 Bool.rec (se E R (pd E q i o.op) o l h fun v h'=>ih (i+1) (fJ l o.dst v) h' (gU i tr (cb (l.evD (tmpsOf o.op.operands.toList)) (pd E q i o.op) o.op h h')))
  (Bool.rec (opK o.op E R cx o.dst l h (fun l' h'=>ih (i+1) l' h' (gU i tr (tw l o.op))) (fun _ _ _=>none))
    (jR E R true o l h fun v h'=>ih (i+1) (fJ l o.dst v) h' (gU i tr (tw l o.op))) (pd E q i o.op)) (oI o.op)
def mO(E:Env)(R:Rec)(cx:Cx)(ops:List Oper)(q:Nat)(fin:DM)(os:List Oper):DM:=List.rec (motive:=fun _=>DM) fin
 (fun o _ ih i l h tr=>Option.rec none (fun b=>Bool.rec (ih (i+1) (fJ l o.dst (.tuple #[])) h tr) (sW E R cx q o ih i l h tr) b) (oX ops l o)) os
def drawKo(E:Env)(R:Rec)(cx:Cx)(ops:List Oper)(l:Loc)(h:Hp)(kn:Loc->Hp->Opt):Opt:=
 Option.rec none (fun p=>mO E R cx ops p.1 (fun _ l h tr=>Bool.rec none (kn l h) (d9 tr p.2)) ops 0 l h []) (plan E ops)
def drawK(E:Env)(R:Rec)(cx:Cx)(ops:List Oper)(l:Loc)(h:Hp)(kn:Loc->Hp->Opt):Opt:=drawKo E R cx (eh ops) l h kn

abbrev CodeM:=Cx->Code->Loc->Hp->(Loc->Hp->Opt)->(Ex->Loc->Hp->Opt)->Opt
def asBool:Value->Option Bool
 | .bool b=>some b
 |_=>none
def blkK(e:Ex):Nat->(Loc->Hp->Opt)->(Ex->Loc->Hp->Opt)->Loc->Hp->Opt:=Ex.rec (motive:=fun _=>Nat->(Loc->Hp->Opt)->(Ex->Loc->Hp->Opt)->Loc->Hp->Opt)
 (fun _ kn _ l h=>kn l h) (fun i id kn ka l h=>Bool.rec (ka (.exit i) l h) (kn l h) (zR i id)) (fun _ _ ka l h=>ka .ret l h) (fun v _ _ ka l h=>ka (.pan v) l h) e
def lU(E:Env)(R:Rec)(M:CodeM)(cx:Cx)(c:Code):Loc->Hp->(Loc->Hp->Opt)->(Ex->Loc->Hp->Opt)->Opt:=Code.rec (motive:=fun _=>Loc->Hp->(Loc->Hp->Opt)->(Ex->Loc->Hp->Opt)->Opt)
 (skip:=fun l h kn _=>kn l h)
 (region:=fun _ ops draw l h kn ka=>Bool.rec (opsK E R cx ops.toList kn ka ops.toList l h) (drawK E R cx ops.toList l h kn) draw)
 (seq:=fun _ _ iha ihb l h kn ka=>iha l h (fun l h=>ihb l h kn ka) ka)
 (cond:=fun c _ _ iha ihb l h kn ka=>Option.rec none (fun t=>Bool.rec (ihb l h kn ka) (iha l h kn ka) t) (asBool (evK l c)))
 (block:=fun id _ ih l h kn ka=>ih l h kn (fun e l h=>blkK e id kn ka l h))
 (loop:=fun b ih l h kn ka=>ih l h (fun l h=>M cx (.loop b) l h kn ka) ka)
 (rangeFunc:=fun f ps asg body _ _ l h kn ka=>dH (ib R cx (evK l f) ps asg body l h) kn ka)
 (exit:=fun id l h _ ka=>ka (.exit id) l h)
 (scope:=fun _ ih l h kn ka=>ih l h kn ka)
 (label:=fun _ l h kn _=>kn l h)
 (goto:=fun _ _ _ _ _=>none)
 (ret:=fun l h _ ka=>ka .ret l h)
 (refuse:=fun _ _ _ _ _=>none) c
abbrev mz:=Option (Out×Option (Value×Bool)×Hp)
def rD(E:Env)(R:Rec)(fn:Func)(l:Loc)(h':Hp):mz:=match bw R l.dfs none h' with
 | some (none,h'')=>match aT E l.regs h'' fn.results.toList with
   |none=>none
   |some vs=>some (.ret (ac vs),l.rc,h'')
 |_=>none
def doneK(E:Env)(R:Rec)(fn:Func)(l:Loc)(h:Hp):mz:=List.rec (motive:=fun _=>mz)
 (Option.rec none (fun vs=>some (.ret (ac vs),l.rc,h)) (aT E l.regs h fn.results.toList)) (fun _ _ _=>rD E R fn l h) l.dfs
def slowPan(E:Env)(R:Rec)(fn:Func)(v:Value)(l:Loc)(h':Hp):mz:=match bw R l.dfs (some v) h' with
 |none=>none
 |some (some v,h'')=>some (.pan v,l.rc,h'')
 | some (none,h'')=>match aT E l.regs h'' fn.results.toList with
   |none=>none
   |some vs=>some (.ret (ac vs),l.rc,h'')
def exLeave(e:Ex):Env->Rec->Func->Loc->Hp->mz:=Ex.rec (motive:=fun _=>Env->Rec->Func->Loc->Hp->mz) doneK (fun _ _ _ _ _ _=>none) doneK (fun v E R fn l h=>slowPan E R fn v l h) e
def leaveK(E:Env)(R:Rec)(fn:Func)(r:Opt):mz:=Option.rec none (fun q=>Prod.rec (fun e q2=>Prod.rec (fun l h=>exLeave e E R fn l h) q2) q) r
def rV(E:Env)(R:Rec)(f:FuncId)(args:List Value)(rc:Option (Value×Bool))(h:Hp)(fn:Func)(body:Code):mz:=
 Bool.rec none (leaveK E R fn (R.code ⟨f,fn.ntmps,none⟩ body ⟨(Tr.blank (.tuple #[]) fn.ntmps fn.ntmps).setAll 0 args,[],rc⟩ h)) (zN args.length fn.ntmps)
def callBK(E:Env)(R:Rec)(f:FuncId)(args:List Value)(rc:Option (Value×Bool))(h:Hp):mz:=
 Option.rec none (fun fn=>Option.rec none (fun body=>rV E R f args rc h fn body) fn.body) (E.fn f)
def sO(E:Env)(R:Rec)(f:FuncId)(args:List Value)(rc:Option (Value×Bool))(h:Hp):mz:=
 Option.rec (callBK E R f args rc h) (fun v=>Option.rec (some (.ret v,none,h)) (fun _=>none) rc) (E.orc f args)
structure RK where
 call:FuncId->List Value->Option (Value×Bool)->Hp->mz
 code:CodeM
def RK.rec'(K:RK):Rec:=⟨K.call,fun cx c l h=>K.code cx c l h (fun l h=>some (.normal,l,h)) (fun e l h=>some (e,l,h))⟩
def botK:RK:=⟨fun _ _ _ _=>none,fun _ _ _ _ _ _=>none⟩
def nextRK(E:Env)(K:RK):RK:=⟨fun f args rc h=>sO E K.rec' f args rc h,fun cx c l h kn ka=>lU E K.rec' K.code cx c l h kn ka⟩
def runK(E:Env)(n:Nat):RK:=Nat.rec botK (fun _ K=>nextRK E K) n
def envK(fns:Tr Func)(tys:Tr TypeInfo)(eqs:List Nat):Env:={fn:=fun f=>getK fns f,ty:=fun t=>getK tys t,eqok:=fun t=>memb t eqs}
end
end Go.Ab

namespace Go.Ab
noncomputable section
theorem getK_eq{α:Type}(t:Tr α)(i:Nat):getK t i=t.get i:=rfl
theorem setK_eq{α:Type}(t:Tr α)(i:Nat)(x:α):setK t i x=t.set i x:=rfl

theorem lH(l:Loc)(d:Option Tmp)(v:Value):fJ l d v=l.put d v:=by
 cases d with
 |none=>rfl
 |some t=>show Loc.mk (setK l.regs t v) l.dfs l.rc=_;rw [setK_eq];rfl
theorem fg(l:Loc):evK l=l.ev:=by
 funext x
 cases x with
 | tmp t=>
   show Option.rec (motive:=fun _=>Value) _ _ (getK l.regs t)=_
   rw [getK_eq]
   simp only [Loc.ev]
   cases l.regs.get t<;>rfl
 |const v=>simp only [Loc.ev];show Bool.rec (motive:=fun _=>Value) poison v (cg v)=_;cases cg v<;>rfl
 |global g=>simp only [Loc.ev];show Bool.rec (motive:=fun _=>Value) poison _ (Xc g 16)=_;cases Xc g 16<;>rfl
 |func f=>rfl

theorem bind2_id(x:Opt):dH x (fun l h=>some (.normal,l,h)) (fun e l h=>some (e,l,h))=x:=by
 cases x with
 |none=>rfl
 |some q=>obtain⟨e,l,h⟩:=q;cases e<;>rfl
theorem pJ(x:Opt)(k1:Loc->Hp->Opt)(a1:Ex->Loc->Hp->Opt)(kn:Loc->Hp->Opt)(ka:Ex->Loc->Hp->Opt)(ha: ∀e l h,e≠ .normal->a1 e l h=ka e l h):
 dH x (fun l h=>dH (k1 l h) kn ka) a1=dH (match x with
  |some (.normal,l,h)=>k1 l h
  |r=>r) kn ka:=by
 cases x with
 |none=>rfl
 | some q=>
   obtain⟨e,l,h⟩:=q
   cases e with
   |normal=>rfl
   |exit i=>exact ha _ _ _ (by simp)
   |ret=>exact ha _ _ _ (by simp)
   |pan v=>exact ha _ _ _ (by simp)

theorem binK_eq(E:Env)(op:BinOp)(t:TypeId)(x y:Operand)(a b:Value):binK E op t x y a b=bq E op t x y a b:=by
 cases a<;>(try rfl)
 cases b<;>(try rfl)
 rename_i k m k' n
 cases op<;>(try rfl)
 all_goals (show Bool.rec (motive:=fun _=>Option Value) none _ (jX k k')=(bif jX k k' then _ else none);cases jX k k'<;>rfl)

theorem retK_eq(r:Option Value)(o:Oper)(l:Loc)(h:Hp)(E:Env)(R:Rec)(kn:Loc->Hp->Opt)(ka:Ex->Loc->Hp->Opt):jf r o.dst l h kn=dH (mb o l (cG E R (bS h r))) kn ka:=by
 cases r with
 |none=>rfl
 |some v=>show kn (fJ l o.dst v) h=kn (l.put o.dst v) h;rw [lH]
theorem retHK_eq(r:Option (Hp×Value))(o:Oper)(l:Loc)(E:Env)(R:Rec)(kn:Loc->Hp->Opt)(ka:Ex->Loc->Hp->Opt):retHK r o.dst l kn=dH (mb o l (cG E R (cH r))) kn ka:=by
 cases r with
 |none=>rfl
 |some p=>obtain⟨h,v⟩:=p;show kn (fJ l o.dst v) h=kn (l.put o.dst v) h;rw [lH]
theorem retUK_eq(r:Option Hp)(o:Oper)(l:Loc)(E:Env)(R:Rec)(kn:Loc->Hp->Opt)(ka:Ex->Loc->Hp->Opt):qM r o.dst l kn=dH (mb o l (cG E R (fb r))) kn ka:=by
 cases r with
 |none=>rfl
 |some h=>show kn (fJ l o.dst (.tuple #[])) h=kn (l.put o.dst (.tuple #[])) h;rw [lH]
theorem resK_eq(R:Rec)(g:FuncId)(args:List Value)(o:Oper)(l:Loc)(h:Hp)(E:Env)(kn:Loc->Hp->Opt)(ka:Ex->Loc->Hp->Opt):
 resK (R.call g args none h) o.dst l kn ka=dH (mb o l (cG E R (some (.call g args,h)))) kn ka:=by
 simp only [cG]
 cases R.call g args none h with
 |none=>rfl
 | some q=>
   obtain⟨x,rc,h2⟩:=q
   cases x with
   |ret v=>show kn (fJ l o.dst v) h2=kn (l.put o.dst v) h2;rw [lH]
   |pan v=>rfl
theorem kT{E:Env}{R:Rec}{cx:Cx}{o:Oper}{l:Loc}{h:Hp}{x:Option (c9×Hp)}(hx:aop E l.ev h o.op=x)(hn: ∀h',x≠some (.recov,h'))(hd: ∀d h',x≠some (.defer d,h')):dz E R cx o l h=mb o l (cG E R x):=by
 unfold dz
 rw [hx]
 split
 . exact absurd rfl (hn _)
 . exact absurd rfl (hd _ _)
 . rfl
theorem rA{h:Hp}{r:Option Value}:(∀h',bS h r≠some (.recov,h'))/\ ∀d h',bS h r≠some (.defer d,h'):=by cases r<;>exact⟨by intros;simp [bS],by intros;simp [bS]⟩
theorem rN{r:Option (Hp×Value)}:(∀h',cH r≠some (.recov,h'))/\ ∀d h',cH r≠some (.defer d,h'):=by cases r<;>exact⟨by intros;simp [cH],by intros;simp [cH]⟩
theorem rS{r:Option Hp}:(∀h',fb r≠some (.recov,h'))/\ ∀d h',fb r≠some (.defer d,h'):=by cases r<;>exact⟨by intros;simp [fb],by intros;simp [fb]⟩
theorem opK_eq(E:Env)(R:Rec)(cx:Cx)(o:Oper)(l:Loc)(h:Hp)(kn:Loc->Hp->Opt)(ka:Ex->Loc->Hp->Opt):opK o.op E R cx o.dst l h kn ka=dH (dz E R cx o l h) kn ka:=by
 have hr: ∀r,aop E l.ev h o.op=bS h r->jf r o.dst l h kn=dH (dz E R cx o l h) kn ka:=fun r hx=>by rw [kT hx rA.1 rA.2];exact retK_eq r o l h E R kn ka
 have hv: ∀r,aop E l.ev h o.op=cH r->retHK r o.dst l kn=dH (dz E R cx o l h) kn ka:=fun r hx=>by rw [kT hx rN.1 rN.2];exact retHK_eq r o l E R kn ka
 have hu: ∀r,aop E l.ev h o.op=fb r->qM r o.dst l kn=dH (dz E R cx o l h) kn ka:=fun r hx=>by rw [kT hx rS.1 rS.2];exact retUK_eq r o l E R kn ka
 obtain⟨dst,op,ty,pos,after,guard⟩:=o
 simp only []at hr hv hu⊢
 cases op
 case move x=>
  have:=hr (some (l.ev x)) rfl
  rw [<-this]
  show kn (fJ l dst (evK l x)) h=kn (fJ l dst (l.ev x)) h
  rw [fg]
 case assign x=>
  have:=hr (some (l.ev x)) rfl
  rw [<-this]
  show kn (fJ l dst (evK l x)) h=kn (fJ l dst (l.ev x)) h
  rw [fg]
 case load t a=>rw [<-hr _ rfl];show jf (eo E h t (evK l a)) dst l h kn=_;rw [fg]
 case store t a v=>rw [<-hu _ rfl];show qM (ie E h t (evK l a) (evK l v)) dst l kn=_;rw [fg]
 case binOp b t x y u=>rw [<-hr (bq E b t x y (l.ev x) (l.ev y)) rfl];show jf (binK E b t x y (evK l x) (evK l y)) dst l h kn=_;rw [fg,binK_eq]
 case unOp b t x=>rw [<-hr (unP b (l.ev x)) rfl];show jf (unP b (evK l x)) dst l h kn=_;rw [fg]
 case fieldAddr t x i=>rw [<-hr (ah E t (l.ev x) i) rfl];show jf (ah E t (evK l x) i) dst l h kn=_;rw [fg]
 case field t x i=>rw [<-hr (ar E t (l.ev x) i) rfl];show jf (ar E t (evK l x) i) dst l h kn=_;rw [fg]
 case indexAddr t x i=>rw [<-hr (dR E t (l.ev x) (l.ev i)) rfl];show jf (dR E t (evK l x) (evK l i)) dst l h kn=_;rw [fg]
 case index t x i=>rw [<-hr (iS E t (l.ev x) (l.ev i)) rfl];show jf (iS E t (evK l x) (evK l i)) dst l h kn=_;rw [fg]
 case lookup t m k b=>rw [<-hr _ rfl];show jf (dq E h t (evK l m) (evK l k) b) dst l h kn=_;rw [fg]
 case mapUpdate t m k v=>rw [<-hu _ rfl];show qM (jq E h t (evK l m) (evK l k) (evK l v)) dst l kn=_;rw [fg]
 case mapEntry t m k=>rw [<-hv _ rfl];show retHK (iR E h t (evK l m) (evK l k)) dst l kn=_;rw [fg]
 case call c=>
  show callK c E R cx dst l h kn ka=_
  unfold callK
  cases hc:c.callee with
  |invoke r n=>rfl
  |builtin b=>rfl
  | value f=>
    show Option.rec (motive:=fun _=>Opt) (cK (.call c) E R cx dst l h kn ka) _ (asFn (evK l f))=_
    rw [fg]
    cases hf:asFn (l.ev f)with
    |none=>rfl
    | some p=>
      obtain⟨g,a,b⟩:=p
      have hv:l.ev f=.func (.func g) a b:=by
       unfold asFn at hf
       split at hf
       . rename_i he;cases hf;exact he
       . cases hf
      have hx:aop E l.ev h (.call c)=some (.call g (a.toList++c.args.toList.map l.ev++b.toList),h):=by simp only [aop,hc,hv,target]
      rw [kT (o:=⟨dst,.call c,ty,pos,after,guard⟩) hx (by intro h' e;cases e) (by intro d h' e;cases e)]
      exact resK_eq R g _ ⟨dst,.call c,ty,pos,after,guard⟩ l h E kn ka
 all_goals rfl

theorem ue(ops:List Oper)(l:Loc)(o:Oper):oX ops l o=bR ops l.regs o:=by
 unfold oX
 cases hg:o.guard with
 |none=>unfold bR;rw [hg]
 |some q=>rfl
theorem opsK_eq(E:Env)(R:Rec)(cx:Cx)(ops:List Oper)(kn:Loc->Hp->Opt)(ka:Ex->Loc->Hp->Opt): ∀(os:List Oper) (l:Loc) (h:Hp),opsK E R cx ops kn ka os l h=dH (iL E R cx ops os l h) kn ka
 | [],l,h=>rfl
 | o ::os,l,h=>by
   have ih:=opsK_eq E R cx ops kn ka os
   show Option.rec (motive:=fun _=>Opt) none (fun b=>Bool.rec (opsK E R cx ops kn ka os (fJ l o.dst (.tuple #[])) h) (opK o.op E R cx o.dst l h (opsK E R cx ops kn ka os) ka) b) (oX ops l o)=_
   rw [ue]
   simp only [iL]
   cases bR ops l.regs o with
   |none=>rfl
   | some b=>
     cases b with
     |false=>show opsK E R cx ops kn ka os (fJ l o.dst (.tuple #[])) h=_;rw [ih,lH]
     | true=>
       show opK o.op E R cx o.dst l h (opsK E R cx ops kn ka os) ka=_
       rw [opK_eq,show opsK E R cx ops kn ka os=fun l h=>dH (iL E R cx ops os l h) kn ka from funext fun l=>funext fun h=>ih l h]
       rw [pJ _ _ _ _ _ (fun _ _ _ _=>rfl)]
       simp only []
       cases dz E R cx o l h with
       |none=>rfl
       |some q=>obtain⟨e,l',h'⟩:=q;cases e<;>rfl

end
end Go.Ab

namespace Go.Ab
noncomputable section

theorem uc(E:Env)(R:Rec)(l:Loc)(qb:Bool)(o:Oper)(h:Hp):ct E R (l.evD (tmpsOf o.op.operands.toList)) qb o h=ct E R l.ev qb o h:=by
 unfold ct
 rw [qT (qz l o.op),qT (qz l o.op)]
theorem fast_step{E:Env}{R:Rec}{cx:Cx}{o:Oper}{l:Loc}{h:Hp}(hf:oI o.op=true){K:Value->Hp->Opt}:
 dH (dz E R cx o l h) (fun l' h'=>none) (fun _ _ _=>none)=none/\
 ∀ kn:Loc->Hp->Opt,dH (dz E R cx o l h) kn (fun _ _ _=>none)=(match ct E R l.ev false o h with
   |none=>none
   |some (v,h')=>kn (l.put o.dst v) h'):=by
 have key: ∀x,aop E l.ev h o.op=x->((∃h0 r,x=bS h0 r)\/(∃r,x=cH r)\/ ∃r,x=fb r)-> ∀kn:Loc->Hp->Opt,dH (dz E R cx o l h) kn (fun _ _ _=>none)=(match ct E R l.ev false o h with
  |none=>none
  |some (v,h')=>kn (l.put o.dst v) h'):=by
  intro x hx hs kn
  have hn:(∀h',x≠some (.recov,h'))/\ ∀d h',x≠some (.defer d,h'):=by
   rcases hs with⟨h0,r,rfl⟩|⟨r,rfl⟩|⟨r,rfl⟩
   . exact rA
   . exact rN
   . exact rS
  rw [kT hx hn.1 hn.2]
  simp only [ct,cond_false,hx]
  rcases hs with⟨h0,r,rfl⟩|⟨r,rfl⟩|⟨r,rfl⟩<;>cases r<;>rfl
 have kind:(∃h0 r,aop E l.ev h o.op=bS h0 r)\/(∃r,aop E l.ev h o.op=cH r)\/ ∃r,aop E l.ev h o.op=fb r:=by
  obtain⟨dst,op,ty,pos,after,guard⟩:=o
  simp only []at hf⊢
  cases op<;>(try (cases hf;done))
  all_goals first
   |exact .inl ⟨h,some (l.ev _),rfl⟩
   |exact .inl ⟨h,_,rfl⟩
   |exact .inr (.inl ⟨_,rfl⟩)
   |exact .inr (.inr ⟨_,rfl⟩)
 refine⟨?_,key _ rfl kind⟩
 rw [key _ rfl kind]
 cases ct E R l.ev false o h<;>rfl
theorem ry(E:Env)(q i:Nat)(op:Op):pd E q i op=er E q i op:=by
 unfold pd er
 cases hq:zR q 0 with
 | true=>
   have:q=0:=zS hq
   subst this
   simp
 |false=>cases Nat.testBit q i<;>rfl
theorem elseDK_eq (E:Env) (R:Rec) (qb:Bool) (o:Oper) (l:Loc) (h:Hp) (k:Value->Hp->Opt):se E R qb o l h k=jR E R qb o l h k:=by
 unfold se
 cases hc:asCall o.op with
 |none=>rfl
 | some c=>
   show callDK E R qb o c l h k=_
   have ho:o.op=.call c:=by
    unfold asCall at hc
    split at hc
    . rename_i he;cases hc;exact he
    . cases hc
   unfold callDK
   cases hcc:c.callee with
   |invoke r n=>rfl
   |builtin b=>rfl
   | value f =>
     show Option.rec (motive:=fun _=>Opt) (jR E R qb o l h k) _ (asFn (evK l f))=_
     rw [fg]
     cases hf:asFn (l.ev f)with
     |none=>rfl
     | some p=>
       obtain⟨g,a,b⟩:=p
       have hv:l.ev f=.func (.func g) a b:=by
        unfold asFn at hf
        split at hf
        . rename_i he;cases hf;exact he
        . cases hf
       have hx: ∀h,aop E l.ev h o.op=some (.call g (a.toList++c.args.toList.map l.ev++b.toList),h):=by intro h;rw [ho];simp only [aop,hcc,hv,target]
       unfold jR ct
       cases qb with
       | false=>
         simp only [cond_false,hx,cG]
         show resDK (R.call g (a.toList++c.args.toList.map l.ev++b.toList) none h) k=_
         cases R.call g (a.toList++c.args.toList.map l.ev++b.toList) none h with
         |none=>rfl
         |some q=>obtain⟨x,rc,h2⟩:=q;cases x<;>rfl
       | true=>
         simp only [cond_true,hx,cG]
         show resDK (R.call g (a.toList++c.args.toList.map l.ev++b.toList) none {h with lo:=h.n}) (sH h k)=_
         cases R.call g (a.toList++c.args.toList.map l.ev++b.toList) none {h with lo:=h.n}with
         |none=>rfl
         | some q=>
           obtain⟨x,rc,h2⟩:=q
           cases x with
           |pan v=>rfl
           | ret v=>
             show sH h k v h2=_
             simp only [sH]
             cases zN h.n h2.lo<;>rfl
theorem xW{op:Op}(h:oI op=true):dr op=false:=by
 cases op<;>first|rfl|exact absurd h (by simp [oI])
theorem xB (E:Env) (R:Rec) (cx:Cx) (ops:List Oper) (q:Nat) (K:Loc->Hp->List (Nat×Tch)->Opt): ∀(os:List Oper) (i:Nat) (l:Loc) (h:Hp) (tr:List (Nat×Tch)),
 mO E R cx ops q (fun _ l h tr=>K l h tr) os i l h tr=(match dO E R ops q os i l h tr with
  |none=>none
  |some (l',h',tr')=>K l' h' tr')
 | [],i,l,h,tr=>rfl
 | o :: os,i,l,h,tr=>by
   have ih:=xB E R cx ops q K os
   show Option.rec (motive:=fun _=>Opt) none (fun b=>Bool.rec (mO E R cx ops q (fun _ l h tr=>K l h tr) os (i+1) (fJ l o.dst (.tuple #[])) h tr) (sW E R cx q o (mO E R cx ops q (fun _ l h tr=>K l h tr) os) i l h tr) b) (oX ops l o)=_
   rw [ue]
   simp only [dO]
   cases bR ops l.regs o with
   |none=>rfl
   | some b=>
     cases b with
     |false=>show mO E R cx ops q (fun _ l h tr=>K l h tr) os (i+1) (fJ l o.dst (.tuple #[])) h tr=_;rw [ih,lH]
     | true=>
       show sW E R cx q o (mO E R cx ops q (fun _ l h tr=>K l h tr) os) i l h tr=_
       simp only []
       have hslow: ∀qb,er E q i o.op=qb->jR E R qb o l h (fun v h'=>mO E R cx ops q (fun _ l h tr=>K l h tr) os (i+1) (fJ l o.dst v) h' (gU i tr (cb (l.evD (tmpsOf o.op.operands.toList)) qb o.op h h')))=
        (match(match ct E R (l.evD (tmpsOf o.op.operands.toList)) (er E q i o.op) o h with
          |none=>none
          |some (v,h')=>dO E R ops q os (i+1) (l.put o.dst v) h' (gU i tr (cb (l.evD (tmpsOf o.op.operands.toList)) (er E q i o.op) o.op h h')))with
          |none=>none
          |some (l',h',tr')=>K l' h' tr'):=by
        intro qb hq
        rw [hq,uc]
        unfold jR
        cases ct E R l.ev qb o h with
        |none=>rfl
        |some p=>obtain⟨v,h'⟩:=p;show mO E R cx ops q _ os (i+1) (fJ l o.dst v) h' _=_;rw [ih,lH]
       unfold sW
       cases hf:oI o.op with
       | false=>
         show se E R (pd E q i o.op) o l h _=_
         rw [elseDK_eq,ry]
         exact hslow _ rfl
       | true=>
         have hn: ∀b (h h':Hp),cb (l.evD (tmpsOf o.op.operands.toList)) b o.op h h'=tw l o.op:=by
          intro b h h'
          have hna:d6 o.op=false:=by cases ho:o.op<;>first|rfl|(rw [ho]at hf;simp [oI]at hf)
          unfold cb tw iP
          rw [xW hf,hna];rfl
         simp only [hn]at hslow⊢
         cases hq:pd E q i o.op with
         | true=>
           rw [ry]at hq
           exact hslow true hq
         | false=>
           rw [ry]at hq
           show opK o.op E R cx o.dst l h _ _=_
           rw [opK_eq,(fast_step (R:=R) hf (K:=fun _ _=>none)).2,uc,hq]
           cases ct E R l.ev false o h with
           |none=>rfl
           |some p=>obtain⟨v,h'⟩:=p;simp only [];rw [ih]
theorem codeK_eq(E:Env)(R:Rec)(M:CodeM)(hM: ∀cx c l h kn ka,M cx c l h kn ka=dH (R.code cx c l h) kn ka)(cx:Cx): ∀(c:Code) (l:Loc) (h:Hp) (kn:Loc->Hp->Opt) (ka:Ex->Loc->Hp->Opt),
 lU E R M cx c l h kn ka=dH (aE E R cx c l h) kn ka:=by
 intro c
 induction c with
 |skip=>intro l h kn ka;rfl
 |label n=>intro l h kn ka;rfl
 | region id ops draw=>
   intro l h kn ka
   cases draw with
   |false=>exact opsK_eq E R cx ops.toList kn ka ops.toList l h
   | true=>
     show drawK E R cx ops.toList l h kn=_
     unfold drawK drawKo
     simp only [aE,cond_true]
     generalize eh ops.toList=os
     cases plan E os with
     |none=>rfl
     | some p=>
       obtain⟨q,ps⟩:=p
       show mO E R cx os q (fun _ l h tr=>Bool.rec none (kn l h) (d9 tr ps)) os 0 l h []=_
       rw [xB E R cx os q (fun l h tr=>Bool.rec none (kn l h) (d9 tr ps))]
       simp only []
       cases dO E R os q os 0 l h []with
       |none=>rfl
       | some x=>
         obtain⟨a,b,c⟩:=x
         simp only []
         cases d9 c ps<;>rfl
 | seq a b iha ihb=>
   intro l h kn ka
   show lU E R M cx a l h (fun l h=>lU E R M cx b l h kn ka) ka=_
   rw [iha,show(fun l h=>lU E R M cx b l h kn ka)=fun l h=>dH (aE E R cx b l h) kn ka from funext fun l=>funext fun h=>ihb l h kn ka]
   rw [pJ _ _ _ _ _ (fun _ _ _ _=>rfl)]
   simp only [aE]
   cases aE E R cx a l h with
   |none=>rfl
   |some q=>obtain⟨e,l',h'⟩:=q;cases e<;>rfl
 | cond c a b iha ihb=>
   intro l h kn ka
   show Option.rec (motive:=fun _=>Opt) none (fun t=>Bool.rec (lU E R M cx b l h kn ka) (lU E R M cx a l h kn ka) t) (asBool (evK l c))=_
   rw [fg,iha,ihb]
   simp only [aE]
   cases l.ev c<;>(try rfl)
   rename_i t
   cases t<;>rfl
 | block id b ih=>
   intro l h kn ka
   show lU E R M cx b l h kn (fun e l h=>blkK e id kn ka l h)=_
   rw [ih]
   simp only [aE]
   cases aE E R cx b l h with
   |none=>rfl
   | some q=>
     obtain⟨e,l',h'⟩:=q
     cases e with
     |normal=>rfl
     |ret=>rfl
     |pan v=>rfl
     | exit i=>
       show Bool.rec (motive:=fun _=>Opt) (ka (.exit i) l' h') (kn l' h') (zR i id)=_
       simp only []
       cases zR i id<;>rfl
 | loop b ih=>
   intro l h kn ka
   show lU E R M cx b l h (fun l h=>M cx (.loop b) l h kn ka) ka=_
   rw [ih,show(fun l h=>M cx (.loop b) l h kn ka)=fun l h=>dH (R.code cx (.loop b) l h) kn ka from funext fun l=>funext fun h=>hM cx (.loop b) l h kn ka]
   rw [pJ _ _ _ _ _ (fun _ _ _ _=>rfl)]
   simp only [aE]
   cases aE E R cx b l h with
   |none=>rfl
   |some q=>obtain⟨e,l',h'⟩:=q;cases e<;>rfl
 | rangeFunc f ps asg body _ _=>
   intro l h kn ka
   show dH (ib R cx (evK l f) ps asg body l h) kn ka=_
   rw [fg];rfl
 |exit id=>intro l h kn ka;rfl
 |scope b ih=>intro l h kn ka;exact ih l h kn ka
 |goto n=>intro l h kn ka;rfl
 |ret=>intro l h kn ka;rfl
 |refuse m=>intro l h kn ka;rfl

theorem wF(E:Env)(R:Rec)(fn:Func)(l:Loc)(h:Hp):doneK E R fn l h=rD E R fn l h:=by
 unfold doneK rD
 cases hd:l.dfs with
 |cons d ds=>rfl
 | nil=>
   simp only [bw]
   cases aT E l.regs h fn.results.toList<;>rfl
theorem callBK_eq(E:Env)(R:Rec)(f:FuncId)(args:List Value)(rc:Option (Value×Bool))(h:Hp):callBK E R f args rc h=ju E R f args rc h:=by
 unfold callBK ju
 cases E.fn f with
 |none=>rfl
 | some fn=>
   show Option.rec (motive:=fun _=>mz) none (fun body=>rV E R f args rc h fn body) fn.body=_
   simp only []
   cases fn.body with
   |none=>rfl
   | some body=>
     show rV E R f args rc h fn body=_
     unfold rV
     simp only []
     cases zN args.length fn.ntmps with
     |false=>rfl
     | true=>
       show leaveK E R fn _=_
       simp only [cond_true]
       cases R.code ⟨f,fn.ntmps,none⟩ body ⟨(Tr.blank (.tuple #[]) fn.ntmps fn.ntmps).setAll 0 args,[],rc⟩ h with
       |none=>rfl
       | some q=>
         obtain⟨e,l,h'⟩:=q
         cases e with
         |exit i=>rfl
         |pan v=>rfl
         |normal=>exact wF E R fn l h'
         |ret=>exact wF E R fn l h'

theorem callSK_eq(E:Env)(R:Rec)(f:FuncId)(args:List Value)(rc:Option (Value×Bool))(h:Hp):sO E R f args rc h=ig E R f args rc h:=by
 unfold sO ig
 cases E.orc f args with
 |none=>exact callBK_eq E R f args rc h
 |some v=>cases rc<;>rfl

theorem wZ(E:Env): ∀n,(runK E n).rec'=run E n/\ ∀cx c l h kn ka,(runK E n).code cx c l h kn ka=dH ((run E n).code cx c l h) kn ka
 |0=>⟨rfl,fun _ _ _ _ _ _=>rfl⟩
 | n+1=>by
   obtain⟨h1,h2⟩:=wZ E n
   have hc: ∀cx c l h kn ka,(runK E (n+1)).code cx c l h kn ka=dH ((run E (n+1)).code cx c l h) kn ka:=by
    intro cx c l h kn ka
    show lU E (runK E n).rec' (runK E n).code cx c l h kn ka=dH (aE E (run E n) cx c l h) kn ka
    rw [h1]
    exact codeK_eq E (run E n) (runK E n).code h2 cx c l h kn ka
   refine⟨?_,hc⟩
   show Rec.mk (fun f args rc h=>sO E (runK E n).rec' f args rc h) (fun cx c l h=>(runK E (n+1)).code cx c l h (fun l h=>some (.normal,l,h)) (fun e l h=>some (e,l,h)))=next E (run E n)
   rw [h1]
   unfold next
   congr 1
   . funext f args rc h;exact callSK_eq E (run E n) f args rc h
   . funext cx c l h;rw [hc,bind2_id];rfl
theorem runK_call(E:Env)(n:Nat)(f:FuncId)(args:List Value)(rc:Option (Value×Bool))(h:Hp):(runK E n).call f args rc h=(run E n).call f args rc h:=by
 rw [<-(wZ E n).1];rfl

theorem envK_eq(fns:Tr Func)(tys:Tr TypeInfo)(eqs:List Nat):envK fns tys eqs=envOf fns tys eqs:=rfl

end
end Go.Ab

namespace Go.Ab
section
variable{E:Env}{ρ:Operand->Value}{h:Hp}
theorem o_move{x:Operand}:aop E ρ h (.move x)=some (.val (ρ x),h):=rfl
theorem o_assign{x:Operand}:aop E ρ h (.assign x)=some (.val (ρ x),h):=rfl
theorem o_load{t:TypeId}{a:Operand}:aop E ρ h (.load t a)=bS h (eo E h t (ρ a)):=rfl
theorem o_store{t:TypeId}{a x:Operand}:aop E ρ h (.store t a x)=fb (ie E h t (ρ a) (ρ x)):=rfl
theorem o_binOp{op:BinOp}{t u:TypeId}{x y:Operand}:aop E ρ h (.binOp op t x y u)=bS h (bq E op t x y (ρ x) (ρ y)):=rfl
theorem o_unOp{op:UnOp}{t:TypeId}{x:Operand}:aop E ρ h (.unOp op t x)=bS h (unP op (ρ x)):=rfl
theorem yN{f:FuncId}{a b:Array Operand}:aop E ρ h (.makeFunc (.func f) a b)=some (.val (.func (.func f) (a.map ρ) (b.map ρ)),h):=rfl
theorem o_slice{t:TypeId}{x:Operand}{l u m:Option Operand}:aop E ρ h (.slice t x l u m)=bS h (dQ E t (ρ x) (l.map ρ) (u.map ρ) (m.map ρ)):=rfl
theorem xN{s:TypeId}{x:Operand}{i:Nat}:aop E ρ h (.fieldAddr s x i)=bS h (ah E s (ρ x) i):=rfl
theorem o_field{s:TypeId}{x:Operand}{i:Nat}:aop E ρ h (.field s x i)=bS h (ar E s (ρ x) i):=rfl
theorem yd{t:TypeId}{x i:Operand}:aop E ρ h (.indexAddr t x i)=bS h (dR E t (ρ x) (ρ i)):=rfl
theorem o_index{t:TypeId}{x i:Operand}:aop E ρ h (.index t x i)=bS h (iS E t (ρ x) (ρ i)):=rfl
theorem o_extract{t:Operand}{i:Nat}:aop E ρ h (.extract t i)=bS h (match ρ t with| .tuple vs=>vs.toList[i]? |_=>none):=rfl
theorem o_build{t:TypeId}{ps:Array (Nat×Operand)}:aop E ρ h (.build t ps)=bS h (jP E t (ps.toList.map fun p=>(p.1,ρ p.2))):=rfl
theorem vU{t:TypeId}{n:Nat}{ps:Array (Nat×Operand)}:aop E ρ h (.buildSlice t n ps)=cH (jd E h t n (ps.toList.map fun p=>(p.1,ρ p.2))):=rfl
theorem ym{t:TypeId}{l c:Operand}:aop E ρ h (.makeSlice t l c)=cH (iI E h t (ρ l) (ρ c)):=rfl
theorem v7{x:Operand}{s t:TypeId}{ok:Bool}:aop E ρ h (.typeAssert x s t ok)=bS h (mV E (ρ x) t ok):=rfl
theorem o_convert{s t:TypeId}{x:Operand}:aop E ρ h (.convert s t x)=cH (jH E h s t (ρ x)):=rfl
theorem o_lookup{t:TypeId}{m k:Operand}{ok:Bool}:aop E ρ h (.lookup t m k ok)=bS h (dq E h t (ρ m) (ρ k) ok):=rfl
theorem xV{t:TypeId}{m k v:Operand}:aop E ρ h (.mapUpdate t m k v)=fb (jq E h t (ρ m) (ρ k) (ρ v)):=rfl
theorem yZ{t:TypeId}{m k:Operand}:aop E ρ h (.mapEntry t m k)=cH (iR E h t (ρ m) (ρ k)):=rfl
theorem xG{t:TypeId}{m s v:Operand}:aop E ρ h (.entryStore t m s v)=fb (jW h (ρ m) (ρ s) (ρ v)):=rfl
theorem o_callv{f:Operand}{as:Array Operand}{ts:Array TypeId}:aop E ρ h (.call ⟨.value f,as,ts⟩)=match target (ρ f) (as.toList.map ρ)with|none=>none|some x=>some (x,h):=rfl
theorem o_max{x y:Operand}{ts:Array TypeId}:aop E ρ h (.call ⟨.builtin .max,#[x,y],ts⟩)=bS h (fQ true (ρ x) [ρ y]):=rfl
theorem o_min{x y:Operand}{ts:Array TypeId}:aop E ρ h (.call ⟨.builtin .min,#[x,y],ts⟩)=bS h (fQ false (ρ x) [ρ y]):=rfl
theorem o_append{s x:Operand}{ts:Array TypeId}:aop E ρ h (.call ⟨.builtin .append,#[s,x],ts⟩)=cH (cL E h ts.toList (ρ s) (ρ x)):=rfl
theorem o_copy{s x:Operand}{ts:Array TypeId}:aop E ρ h (.call ⟨.builtin .copy,#[s,x],ts⟩)=cH (copyV E h ts.toList (ρ s) (ρ x)):=rfl
end
theorem yP{h:Hp}{v:Value}:bS h (some v)=some (.val v,h):=rfl
theorem yR{h:Hp}{v:Value}:cH (some (h,v))=some (.val v,h):=rfl
theorem zl{h:Hp}:fb (some h)=some (.skip,h):=rfl
theorem fk(k:IntKind):jX k k=true:=by rw [fI];simp
theorem b_add{E:Env}{t:TypeId}{x y:Operand}{k:IntKind}{m n:Int}:bq E .add t x y (.int k m) (.int k n)=some (.int k (aq k (m+n))):=by simp [bq,fk,gR]
theorem b_sub{E:Env}{t:TypeId}{x y:Operand}{k:IntKind}{m n:Int}:bq E .sub t x y (.int k m) (.int k n)=some (.int k (aq k (m-n))):=by simp [bq,fk,gR]
theorem b_mul{E:Env}{t:TypeId}{x y:Operand}{k:IntKind}{m n:Int}:bq E .mul t x y (.int k m) (.int k n)=some (.int k (aq k (m*n))):=by simp [bq,fk,gR]
theorem ns(m n:Int):iC m n=decide (m=n):=by rw [gG];by_cases h:m=n<;>simp [h]
theorem b_eql{E:Env}{t:TypeId}{x y:Operand}{k:IntKind}{m n:Int}:bq E .eql t x y (.int k m) (.int k n)=some (.bool (decide (m=n))):=by simp [bq,fk,gR,ns]
theorem b_neq{E:Env}{t:TypeId}{x y:Operand}{k:IntKind}{m n:Int}:bq E .neq t x y (.int k m) (.int k n)=some (.bool (!decide (m=n))):=by simp [bq,fk,gR,ns]
theorem b_lss{E:Env}{t:TypeId}{x y:Operand}{k:IntKind}{m n:Int}:bq E .lss t x y (.int k m) (.int k n)=some (.bool (decide (m<n))):=by simp [bq,fk,gR,gX]
theorem b_leq{E:Env}{t:TypeId}{x y:Operand}{k:IntKind}{m n:Int}:bq E .leq t x y (.int k m) (.int k n)=some (.bool (decide (m<=n))):=by
 simp only [bq,fk,gR,gX,cond_true]
 by_cases hx:m<=n
 . rw [decide_eq_true hx,decide_eq_false (by omega)];rfl
 . rw [decide_eq_false hx,decide_eq_true (by omega)];rfl
theorem b_gtr{E:Env}{t:TypeId}{x y:Operand}{k:IntKind}{m n:Int}:bq E .gtr t x y (.int k m) (.int k n)=some (.bool (decide (n<m))):=by simp [bq,fk,gR,gX]
theorem b_geq{E:Env}{t:TypeId}{x y:Operand}{k:IntKind}{m n:Int}:bq E .geq t x y (.int k m) (.int k n)=some (.bool (decide (n<=m))):=by
 simp only [bq,fk,gR,gX,cond_true]
 by_cases hx:n<=m
 . rw [decide_eq_true hx,decide_eq_false (by omega)];rfl
 . rw [decide_eq_false hx,decide_eq_true (by omega)];rfl
theorem b_quo{E:Env}{t:TypeId}{x y:Operand}{k:IntKind}{m n:Int}(h:n≠0):bq E .quo t x y (.int k m) (.int k n)=some (.int k (aq k (m.tdiv n))):=by
 simp [bq,fk,gR,ns,h]
theorem nQ{E:Env}{t:TypeId}{x y:Operand}{k:IntKind}{m n:Int}(h:n≠0):bq E .rem t x y (.int k m) (.int k n)=some (.int k (m.tmod n)):=by
 simp [bq,fk,gR,ns,h]
theorem mm_max{k k':IntKind}{a b:Int}:fQ true (.int k a) [.int k' b]=some (.int k (max a b)):=by
 simp only [fQ,gX,cond_true]
 by_cases h:a<b
 . rw [decide_eq_true h];simp only [cond_true];rw [Int.max_eq_right (by omega)]
 . rw [decide_eq_false h];simp only [cond_false];rw [Int.max_eq_left (by omega)]
theorem mm_min{k k':IntKind}{a b:Int}:fQ false (.int k a) [.int k' b]=some (.int k (min a b)):=by
 simp only [fQ,gX,cond_false]
 by_cases h:b<a
 . rw [decide_eq_true h];simp only [cond_true];rw [Int.min_eq_right (by omega)]
 . rw [decide_eq_false h];simp only [cond_false];rw [Int.min_eq_left (by omega)]
theorem wrap64{n:Int}(h1: -9223372036854775808<=n)(h2:n<9223372036854775808):aq .i64 n=n:=by
 unfold aq
 cases n with
 | ofNat m=>
   have:Xc m (hf .i64)=true:=by rw [Nat.blt_eq];simp only [hf];have h2':(m:Int)<9223372036854775808:=h2;omega
   simp only [this,cond_true]
 | negSucc m=>
   have:Xc m (hf .i64)=true:=by rw [Nat.blt_eq];simp only [hf];have: -9223372036854775808<=Int.negSucc m:=h1;omega
   simp only [sgn,this,cond_true]
theorem ra{α:Type}{a:α}{P:α->Prop}:(∃b,some a=some b/\P b)↔P a:=⟨fun⟨b,h1,h2⟩=>by cases h1;exact h2,fun h=>⟨a,rfl,h⟩⟩
theorem yr{a:Bool}{P:Bool->Prop}:(∃t,Value.bool a=Value.bool t/\P t)↔P a:=⟨fun⟨b,h1,h2⟩=>by cases h1;exact h2,fun h=>⟨a,rfl,h⟩⟩
end Go.Ab
namespace Go.Ab
theorem bn{v:Value}{l:List Value}:cD (v::l) 0=v:=rfl
theorem ce{v:Value}{l:List Value}{i:Nat}:cD (v::l) (i+1)=cD l i:=rfl
end Go.Ab
namespace Go.Ab
section
variable{l:Loc}
theorem c_int{k:IntKind}{n:Int}:l.ev (.const (.int k n))=.int k n:=rfl
theorem c_bool{b:Bool}:l.ev (.const (.bool b))=.bool b:=rfl
theorem c_string{s:ByteArray}:l.ev (.const (.string s))=.string s:=rfl
theorem c_nilp:l.ev (.const (.pointer none))=.pointer none:=rfl
theorem c_nils:l.ev (.const (.slice none 0 0))=.slice none 0 0:=rfl
theorem c_nilm:l.ev (.const (.map none))=.map none:=rfl
theorem c_nilf:l.ev (.const .nilFunc)=.nilFunc:=rfl
theorem c_nili:l.ev (.const .nilIface)=.nilIface:=rfl
end
end Go.Ab
namespace Go.Ab
def one1:Option (List Value)->Option Value
 |some [v]=>some v
 |_=>none
theorem one1_some{v:Value}:one1 (some [v])=some v:=rfl
theorem yO{E:Env}{h:Hp}{t:TypeId}{b o:Nat}{s:Option Nat}(ht:E.agg t=some false):eo E h t (.pointer (some ⟨b,o,s⟩))=one1 (h.load b o 1):=by
 simp only [eo,ht]
 unfold one1
 rfl
end Go.Ab
namespace Go.Ab
def gv(want:Bool):Option Value->Option Bool
 |some (.bool b)=>some (bif b then want else !want)
 |some (.tuple _)=>some false
 |_=>none
noncomputable def gj(want:Bool)(rg:Tr Value):Option Oper->Option Bool
 |none=>some false
 | some o=>match o.dst with
   |none=>some false
   |some d=>gv want (rg.get d)
theorem yK{a:List Oper}{rg:Tr Value}{d:Option Tmp}{op:Op}{t:TypeId}{p:String}{af:Array Edge}{j:Nat}{want:Bool}:bR a rg ⟨d,op,t,p,af,some (j,want)⟩=gj want rg (a[j]?):=by
 simp only [bR,gj]
 cases a[j]? with
 |none=>rfl
 | some o=>
   simp only []
   cases o.dst with
   |none=>rfl
   | some d=>
     simp only [gv]
     cases rg.get d with
     |none=>rfl
     |some v=>cases v<;>rfl
theorem gj_some{want:Bool}{rg:Tr Value}{d:Tmp}{op:Op}{t:TypeId}{p:String}{af:Array Edge}{g:Option (Nat×Bool)}:gj want rg (some ⟨some d,op,t,p,af,g⟩)=gv want (rg.get d):=rfl
theorem gv_true{b:Bool}:gv true (some (.bool b))=some b:=by cases b<;>rfl
theorem gv_false{b:Bool}:gv false (some (.bool b))=some (!b):=by cases b<;>rfl
theorem gv_tuple{want:Bool}{x:Array Value}:gv want (some (.tuple x))=some false:=rfl
theorem u_not{b:Bool}:unP .not (.bool b)=some (.bool (!b)):=rfl
theorem target_fn{g:FuncId}{a b:Array Value}{args:List Value}:target (.func (.func g) a b) args=some (.call g (a.toList++args++b.toList)):=rfl
def bK(E:Env)(f:FuncId)(args:List Value)(h:Hp)(v:Value):Prop:=Ret E f args h fun v' h'=>v'=v/\Gr h h'
end Go.Ab
namespace Go.Ab
theorem bC{E:Env}{cx:Cx}{Q:ey}{k:List Fr}{l:Loc}{h:Hp}{b:Code}:Run E (lim E) cx Q (.code (.loop b)::k) .normal l h↔Run E (lim E) cx Q (.code b:: .code (.loop b)::k) .normal l h:=by
 rw [<-run_seq]
 simp only [Run]
 have:aE E (lim E) cx (.loop b) l h=aE E (lim E) cx (.seq b (.loop b)) l h:=by
  simp only [aE]
  cases aE E (lim E) cx b l h with
  |none=>rfl
  | some q=>
    obtain⟨e,l',h'⟩:=q
    cases e with
    |normal=>show(lim E).code cx (.loop b) l' h'=_;rw [tK];rfl
    |exit i=>rfl
    |ret=>rfl
    |pan v=>rfl
 rw [this]
def lenK(r:Option (c9×Hp))(h:Hp):Option Value->Option (c9×Hp)
 |some v=>some (.val v,h)
 |none=>r
theorem o_lenK{E:Env}{ρ:Operand->Value}{h:Hp}{x:Operand}{t:TypeId}:aop E ρ h (.call ⟨.builtin .len,#[x],#[t]⟩)=lenK (match ρ x with
 | .map (some r)=>match h.get r with
   |some (.map es _)=>match E.und t with
    |some (.map _ _)=>some (.val (.int .i64 (.ofNat es.length)),h)
    |_=>none
   |_=>none
 |_=>none) h (mC E t (ρ x)):=by
 simp only [aop,pop]
 cases mC E t (ρ x)with
 |some v=>rfl
 | none=>
   simp only [lenK]
   cases ρ x<;>rfl
theorem natOf_nn{i:Int}(h:0<=i):fU i=some i.toNat:=by
 cases i with
 |ofNat n=>rfl
 |negSucc n=>exact absurd h (by simp)
theorem idxP_in{k:IntKind}{i:Int}{n:Nat}(h0:0<=i)(h1:i<n):eR (.int k i) n=some i.toNat:=by
 simp only [eR,natOf_nn h0]
 have:Xc i.toNat n=true:=by rw [Nat.blt_eq];omega
 rw [this];rfl
theorem eX{k:IntKind}{i n:Nat}(h1:i<n):eR (.int k (i:Int)) n=some i:=by
 rw [idxP_in (Int.natCast_nonneg i) (by omega)];simp
theorem ia_slice{E:Env}{t e:TypeId}{k:Nat}{a:Addr}{n c:Nat}{v:Value}(hu:E.und t=some (.slice e))(hs:E.sz e=some k):dR E t (.slice (some a) n c) v=(eR v n).map fun i=>.pointer (some (eH a (i*k))):=by
 simp only [dR,hu,hs]
 cases eR v n<;>rfl
end Go.Ab
namespace Go.Ab
theorem au{E:Env}{cx:Cx}{o:Oper}{l:Loc}{K:Ex->Loc->Hp->Prop}{h:Hp}{f:FuncId}{args:List Value}{v:Value}(hr:bK E f args h v)(hk: ∀h',Gr h h'->K .normal (l.put o.dst v) h'):eA E cx o l K (some (.call f args,h)):=
 step_ret hr fun v' h' ⟨e,g⟩=>by rw [e];exact hk h' g
theorem rU{E:Env}{K:Value->Hp->Prop}{f:FuncId}{args:List Value}{h:Hp}{v:Value}(hr:bK E f args h v)(hk: ∀h',Gr h h'->K v h'):jk E K (some (.call f args,h)):=
 qx hr fun v' h' ⟨e,g⟩=>by rw [e];exact hk h' g
theorem bK.of{E:Env}{f:FuncId}{args:List Value}{h:Hp}{v:Value}(hr:Ret E f args h fun v' h'=>v'=v/\Gr h h'):bK E f args h v:=hr
end Go.Ab
namespace Go.Ab
section
variable(E:Env)(cx:Cx)(Q:ey)
def GStep(a:List Oper)(o:Oper)(os:List Oper)(k:List Fr)(l:Loc)(h:Hp):Option Bool->Prop
 |some true=>eA E cx o l (fun e l' h'=>Run E (lim E) cx Q (.ops a os::k) e l' h') (aop E l.ev h o.op)
 |some false=>Run E (lim E) cx Q (.ops a os::k) .normal (l.put o.dst (.tuple #[])) h
 |none=>False
def CStep(a b:Code)(k:List Fr)(l:Loc)(h:Hp):Value->Prop
 | .bool true=>Run E (lim E) cx Q (.code a::k) .normal l h
 | .bool false=>Run E (lim E) cx Q (.code b::k) .normal l h
 |_=>False
def sU(a:List Oper)(q:Nat)(ps:List (Nat×Nat))(o:Oper)(os:List Oper)(i:Nat)(tr:List (Nat×Tch))(k:List Fr)(l:Loc)(h:Hp):Option Bool->Bool->Prop
 |some true,false=>jk E (fun v h'=>Run E (lim E) cx Q (.opsD a q ps os (i+1) (gU i tr (cb l.ev false o.op h h'))::k) .normal (l.put o.dst v) h') (aop E l.ev h o.op)
 |some true,true=>jk E (fun v h'=>zN h.n h'.lo=true/\Run E (lim E) cx Q (.opsD a q ps os (i+1) (gU i tr (cb l.ev true o.op h h))::k) .normal (l.put o.dst v) {h' with lo:=h.lo}) (aop E l.ev {h with lo:=h.n} o.op)
 |some false,_=>Run E (lim E) cx Q (.opsD a q ps os (i+1) tr::k) .normal (l.put o.dst (.tuple #[])) h
 |none,_=>False
end
section
variable{E:Env}{cx:Cx}{Q:ey}{k:List Fr}{l:Loc}{h:Hp}
theorem r_ops{a os:List Oper}{o:Oper}:Run E (lim E) cx Q (.ops a (o::os)::k) .normal l h↔GStep E cx Q a o os k l h (bR a l.regs o):=by
 rw [xu]
 cases bR a l.regs o with
 |none=>exact⟨fun⟨_,e,_⟩=>(by cases e),fun h=>h.elim⟩
 | some b=>
   rw [ra]
   cases b with
   |true=>rw [if_pos rfl];exact then_step
   |false=>rw [if_neg (by simp)];exact zM
theorem g_true{a os:List Oper}{o:Oper}:GStep E cx Q a o os k l h (some true)↔eA E cx o l (fun e l' h'=>Run E (lim E) cx Q (.ops a os::k) e l' h') (aop E l.ev h o.op):=zM
theorem g_false{a os:List Oper}{o:Oper}:GStep E cx Q a o os k l h (some false)↔Run E (lim E) cx Q (.ops a os::k) .normal (l.put o.dst (.tuple #[])) h:=zM
theorem r_cond{c:Operand}{a b:Code}:Run E (lim E) cx Q (.code (.cond c a b)::k) .normal l h↔CStep E cx Q a b k l h (l.ev c):=by
 rw [run_cond]
 cases l.ev c<;>(try (exact⟨fun⟨_,e,_⟩=>(by cases e),fun h=>h.elim⟩))
 rename_i t
 rw [yr]
 cases t with
 |true=>rw [if_pos rfl];exact zM
 |false=>rw [if_neg (by simp)];exact zM
theorem c_true{a b:Code}:CStep E cx Q a b k l h (.bool true)↔Run E (lim E) cx Q (.code a::k) .normal l h:=zM
theorem c_false{a b:Code}:CStep E cx Q a b k l h (.bool false)↔Run E (lim E) cx Q (.code b::k) .normal l h:=zM
theorem r_opsD{a os:List Oper}{o:Oper}{q i:Nat}{ps:List (Nat×Nat)}{tr:List (Nat×Tch)}:Run E (lim E) cx Q (.opsD a q ps (o::os) i tr::k) .normal l h↔sU E cx Q a q ps o os i tr k l h (bR a l.regs o) (er E q i o.op):=by
 rw [run_opsD]
 cases bR a l.regs o with
 |none=>exact⟨fun⟨_,e,_⟩=>(by cases e),fun h=>h.elim⟩
 | some b=>
   rw [ra]
   cases b with
   | true=>
     rw [if_pos rfl]
     cases er E q i o.op with
     |true=>rw [if_pos rfl];exact zM
     |false=>rw [if_neg (by simp)];exact zM
   |false=>rw [if_neg (by simp)];exact zM
theorem d_skip{a os:List Oper}{o:Oper}{q i:Nat}{ps:List (Nat×Nat)}{tr:List (Nat×Tch)}{b:Bool}:sU E cx Q a q ps o os i tr k l h (some false) b↔Run E (lim E) cx Q (.opsD a q ps os (i+1) tr::k) .normal (l.put o.dst (.tuple #[])) h:=zM
theorem mK{i:Nat}{tr:List (Nat×Tch)}:gU i tr none=tr:=rfl
theorem bF{i:Nat}{b:Tch}{tr:List (Nat×Tch)}:gU i tr (some b)=(i,b)::tr:=rfl
theorem bO{tr:List (Nat×Tch)}:d9 tr []=true:=rfl
theorem guard_no{a:List Oper}{rg:Tr Value}{d:Option Tmp}{op:Op}{t:TypeId}{p:String}{af:Array Edge}:bR a rg ⟨d,op,t,p,af,none⟩=some true:=rfl
end
end Go.Ab
namespace Go.Ab
theorem b_eqlB{E:Env}{t:TypeId}{x y:Operand}{a b:Bool}(hu:E.und t=some .bool):bq E .eql t x y (.bool a) (.bool b)=some (.bool (bif a then b else !b)):=by
 simp [bq,eZ,dE,hu]
theorem b_neqB{E:Env}{t:TypeId}{x y:Operand}{a b:Bool}(hu:E.und t=some .bool):bq E .neq t x y (.bool a) (.bool b)=some (.bool (!(bif a then b else !b))):=by
 simp [bq,eZ,dE,hu]
theorem same_bool{d:Bool}:(bif d then d else !d)=true:=by cases d<;>rfl
end Go.Ab
namespace Go.Ab
noncomputable def boxR(h:Hp)(t:TypeId):Value->Option (c9×Hp)
 | .chan _=>none
 |v=>some (.val (ptrTo h.n),h.new (.cells (Tr.ofList (an v)) (an v).length t 1))
theorem o_boxR{E:Env}{ρ:Operand->Value}{h:Hp}{t:TypeId}{x:Operand}:aop E ρ h (.box t x)=boxR h t (ρ x):=by
 simp only [aop];cases ρ x<;>rfl
noncomputable def allocR(h:Hp)(t:TypeId):Option (List Value)->Option (c9×Hp)
 |none=>none
 |some z=>some (.val (ptrTo h.n),h.new (.cells (Tr.ofList z) z.length t 1))
theorem o_allocR{E:Env}{ρ:Operand->Value}{h:Hp}{t:TypeId}:aop E ρ h (.alloc t)=allocR h t (E.zero t):=by
 simp only [aop];cases E.zero t<;>rfl
section
variable{E:Env}{cx:Cx}{o:Oper}{l:Loc}{K:Ex->Loc->Hp->Prop}{h:Hp}
theorem aM{ops:List Oper}(h:(ops.any qc&&ops.all (oN ops.length))=false):eh ops=ops:=by unfold eh;rw [h];rfl
theorem aD{Q:ey}{k:List Fr}{id:Nat}{ops:Array Oper}{q:Nat}{ps:List (Nat×Nat)}{os:List Oper}(hh:eh ops.toList=os)(hp:plan E os=some (q,ps))(hr:Run E (lim E) cx Q (.opsD os q ps os 0 []::k) .normal l h):Run E (lim E) cx Q (.code (.region id ops true)::k) .normal l h:=(run_draw hh hp).2 hr
end
theorem vr{h h':Hp}(g:Gr {h with lo:=h.n} h'):zN h.n h'.lo=true:=g.hlo
theorem gr_lo{h h':Hp}(g:Gr {h with lo:=h.n} h'):Gr h {h' with lo:=h.lo}:=
 ⟨g.ok0,g.ok,g.n,g.get,fun _ _ h=>h⟩
end Go.Ab
namespace Go.Ab
theorem hush_s{E:Env}{q i:Nat}{op:Op}:er E q i op=(decide (q/2 ^i%2=1)&&decide (3<=cls E op)):=by
 unfold er
 rw [Nat.testBit_eq_decide_div_mod_eq,dB]
end Go.Ab
namespace Go.Ab
theorem xY{E:Env}{K:Value->Hp->Prop}{f:FuncId}{args:List Value}{h:Hp}{v:Value}(hr:bK E f args {h with lo:=h.n} v)(hk: ∀h',Gr h h'->K v h'):
 jk E (fun v h'=>zN h.n h'.lo=true/\K v {h' with lo:=h.lo}) (some (.call f args,{h with lo:=h.n})):=
 rU hr fun h' g=>⟨vr g,hk _ (gr_lo g)⟩
end Go.Ab
namespace Go.Ab
section
variable(E:Env)(cx:Cx)(Q:ey)(a:List Oper)(q:Nat)(ps:List (Nat×Nat))(o:Oper)(os:List Oper)(i:Nat)(k:List Fr)(l:Loc)
def DN(tr:Hp->List (Nat×Tch))(x:Option (c9×Hp)):Prop:=jk E (fun v h'=>Run E (lim E) cx Q (.opsD a q ps os (i+1) (tr h')::k) .normal (l.put o.dst v) h') x
def DQ(h:Hp)(tr:List (Nat×Tch))(x:Option (c9×Hp)):Prop:=jk E (fun v h'=>zN h.n h'.lo=true/\Run E (lim E) cx Q (.opsD a q ps os (i+1) tr::k) .normal (l.put o.dst v) {h' with lo:=h.lo}) x
end
section
variable{E:Env}{cx:Cx}{Q:ey}{a:List Oper}{q:Nat}{ps:List (Nat×Nat)}{o:Oper}{os:List Oper}{i:Nat}{k:List Fr}{l:Loc}{h:Hp}{tr:List (Nat×Tch)}{tf:Hp->List (Nat×Tch)}
theorem dn_loud:sU E cx Q a q ps o os i tr k l h (some true) false↔DN E cx Q a q ps o os i k l (fun h'=>gU i tr (cb l.ev false o.op h h')) (aop E l.ev h o.op):=zM
theorem dn_quiet:sU E cx Q a q ps o os i tr k l h (some true) true↔DQ E cx Q a q ps o os i k l h (gU i tr (cb l.ev true o.op h h)) (aop E l.ev {h with lo:=h.n} o.op):=zM
theorem dn_val{v:Value}{h':Hp}:DN E cx Q a q ps o os i k l tf (some (.val v,h'))↔Run E (lim E) cx Q (.opsD a q ps os (i+1) (tf h')::k) .normal (l.put o.dst v) h':=zM
theorem dn_skip{h':Hp}:DN E cx Q a q ps o os i k l tf (some (.skip,h'))↔Run E (lim E) cx Q (.opsD a q ps os (i+1) (tf h')::k) .normal (l.put o.dst (.tuple #[])) h':=zM
theorem dp{f:FuncId}{args:List Value}{P:Value->Hp->Prop}(hr:Ret E f args h P)(hk: ∀v h',P v h'->Run E (lim E) cx Q (.opsD a q ps os (i+1) (tf h')::k) .normal (l.put o.dst v) h'):DN E cx Q a q ps o os i k l tf (some (.call f args,h)):=qx hr hk
theorem df{f:FuncId}{args:List Value}{v:Value}(hr:bK E f args h v)(hk: ∀h',Gr h h'->Run E (lim E) cx Q (.opsD a q ps os (i+1) (tf h')::k) .normal (l.put o.dst v) h'):DN E cx Q a q ps o os i k l tf (some (.call f args,h)):=rU hr hk
theorem tF{f:FuncId}{args:List Value}{v:Value}(hr:bK E f args {h with lo:=h.n} v)(hk: ∀h',Gr h h'->Run E (lim E) cx Q (.opsD a q ps os (i+1) tr::k) .normal (l.put o.dst v) h'):DQ E cx Q a q ps o os i k l h tr (some (.call f args,{h with lo:=h.n})):=xY hr hk
theorem dq_ret{f:FuncId}{args:List Value}{P:Value->Hp->Prop}(hr:Ret E f args {h with lo:=h.n} fun v h'=>Gr {h with lo:=h.n} h'/\P v {h' with lo:=h.lo})(hk: ∀v h',Gr h h'->P v h'->Run E (lim E) cx Q (.opsD a q ps os (i+1) tr::k) .normal (l.put o.dst v) h'):DQ E cx Q a q ps o os i k l h tr (some (.call f args,{h with lo:=h.n})):=
 qx hr fun v h' ⟨g,p⟩=>⟨vr g,hk v _ (gr_lo g) p⟩
end
end Go.Ab
namespace Go.Ab
theorem ae{b:Nat}:ptrTo b=.pointer (some ⟨b,0,none⟩):=rfl
end Go.Ab

namespace Go.Ab
open Go.ChangeShapes Go.WideShapes Go.RowKit

theorem len2{α:Type}{l:List α}(h:l.length=2): ∃a b,l=[a,b]:=by
 match l,h with
 | [a,b],_=>exact⟨a,b,rfl⟩
section
variable{H:Type}{enc:TypeId×Value->H}{P:Program}
theorem pR(hl:laidOutB P=true){W W':World}(hb:Below W.heap.size W W'): ∀{ts:List TypeId} {vs:List Value} {ds:List (DataW H)} {ps:List MemPlace},(ts.all fun t=>P.readableRec t&&decide (t<P.types.size))=true->
 DataW.TrodAll enc P W 0 (fun _=>true) true ts vs ds ps->(∀x∈ps,x.block<W.heap.size)->DataW.TrodAll enc P W' 0 (fun b=>decide (b<W.heap.size)) true ts vs ds ps
 | [],vs,ds,ps,_,h,_=>by
   obtain⟨rfl,rfl,rfl⟩:=trodAll_nil h
   exact rfl
 | t::ts,vs,ds,ps,hts,h,hlt=>by
   obtain⟨v,vs1,d,ds1,p,q,rfl,rfl,rfl,h1,h2⟩:=trodAll_cons h
   simp only [List.all_cons,Bool.and_eq_true,decide_eq_true_eq]at hts
   exact⟨p,q,Below.trod hl hts.1.1 hts.1.2 h1 hb (fun x hx=>hlt x (by simp [hx])),pR hl hb hts.2 h2 (fun x hx=>hlt x (by simp [hx])),rfl⟩
theorem u7{f:Func}{s:ChangeSpec}{apart handsOn:Bool}{W W':World}{args:Array Value}{ds:List (DataW H)}{before:List MemPlace}{bt:TypeId}
 (hl:laidOutB P=true) (hts:(f.params.toList.all fun t=>P.readableRec t&&decide (t<P.types.size))=true) (hv:s.vars=[])
 (hW:DataW.Whole enc P f.params.toList s.vars apart W args.toList ds [] before) (hfn:s.fn H (ds++[])={results:=[.lit (.bool true)],args:=ds}) (hb:Below W.heap.size W W')
 (hbt:P.underlying bt=some .bool) (hrt:f.resultTypes=#[bt]):
 s.post enc P f apart true handsOn false W args (.bool true) W':=by
 have hlt:=hW.lt
 have hW':=hW
 obtain⟨p,q,hA,hV,rfl,hz,hn⟩:=hW
 rw [hv]at hV
 obtain⟨_,rfl⟩:=trodVars_none hV
 refine⟨ds,[],_,[],p,[],hW',?_,?_,?_,⟨hb.os,hb.output,fun i hi=>?_⟩,fun h=>by cases h⟩
 . rw [hfn,hrt]
   exact trodAll_cons_mk (shut_bool hbt _) trodAll_mk0
 . rw [hfn]
   exact pR hl hb hts hA (fun x hx=>hlt x (by simpa using hx))
 . rw [hfn,hv];rfl
 . rw [hb.block i hi]
   split
   . rename_i h1 h2;rw [h1]at h2;cases h2;exact⟨rfl,rfl,rfl,fun _ _=>rfl⟩
   . rename_i h1 h2;rw [h1]at h2;cases h2;exact .inr ⟨rfl,rfl⟩
   . rfl

end
end Go.Ab

namespace Go.Ab
open Go.ChangeShapes Go.WideShapes Go.RowKit
noncomputable section

def ji(n:Nat):Value->Value
 | .bool b=>.bool b
 | .int k i=>.int k i
 | .string s=>.string s
 | .pointer none=>.pointer none
 | .pointer (some a)=>if a.spot=none/\a.block<n then .pointer (some ⟨a.block+16,a.off,none⟩)else poison
 | .slice none 0 0=>.slice none 0 0
 | .slice (some a) len cap=>if len<=cap then(if a.spot=none/\a.block<n then .slice (some ⟨a.block+16,a.off,none⟩) len cap else .slice (some ⟨0,0,none⟩) len cap)else poison
 |_=>poison
def absA(n:Nat):Value->Value
 | .agg cs=>.agg ⟨cs.toList.map (ji n)⟩
 |v=>ji n v
def absO(n:Nat):Obj->Blk
 | .cells cs _ _=>.cells (Tr.ofList (cs.toList.map (ji n))) (cs.toList.map (ji n)).length 0 0
 |_=>.dead
def hpW(W:World):Hp:={n:=16+W.heap.size,t:=Tr.ofList (Xd 16 .dead++W.heap.toList.map (absO W.heap.size)),lo:=16+W.heap.size}
def muW(W:World):Mu:=fun b=>if b<16 then .dead else match W.heap[b-16]? with
 |some (.cells cs _ _)=>.blk (b-16) 0 cs.size
 |some _=>.dead
 |none=>.none

theorem hpW_ok(W:World):(hpW W).t.Sized (hpW W).n:=by
 have h:=Tr.sized_ofList (Xd 16 Blk.dead++W.heap.toList.map (absO W.heap.size))
 have hl:(Xd 16 Blk.dead++W.heap.toList.map (absO W.heap.size)).length=16+W.heap.size:=by rw [List.length_append,List.length_replicate,List.length_map,Array.length_toList]
 rw [hl]at h
 exact h
theorem hpW_dead(W:World){b:Nat}(h:b<16):(hpW W).get b=some .dead:=by
 show(Tr.ofList _).get b=_
 rw [Tr.get_ofList,zV (by simpa using h),List.getElem?_replicate,if_pos h]
theorem qj(W:World)(c:Nat):(hpW W).get (c+16)=(W.heap[c]?).map (absO W.heap.size):=by
 show(Tr.ofList _).get (c+16)=_
 rw [Tr.get_ofList,zO (by simp)]
 simp
theorem mh(W:World)(c:Nat):muW W (c+16)=match W.heap[c]? with
 |some (.cells cs _ _)=>.blk c 0 cs.size
 |some _=>.dead
 |none=>.none:=by
 unfold muW
 rw [if_neg (by omega),show c+16-16=c by omega]
theorem arel_W{W:World}{a:Addr}(h:a.spot=none/\a.block<W.heap.size):dM (muW W) ⟨a.block+16,a.off,none⟩ a:=by
 obtain⟨b,o,s⟩:=a
 obtain⟨h1,h2⟩:=h
 simp only []at h1 h2
 subst h1
 unfold dM
 rw [mh]
 rw [zP h2]
 cases W.heap[b]<;>simp
theorem vrel_V(W:World)(v:Value):ao (muW W) (ji W.heap.size v) v:=by
 cases v<;>(try exact .poison _)
 . exact .bool _
 . exact .int _ _
 . exact .string _
 . rename_i a
   cases a with
   |none=>exact .nilp
   | some a=>
     simp only [ji]
     split
     . exact .ptr (arel_W ‹_›)
     . exact .poison _
 . rename_i a len cap
   cases a with
   | none=>
     cases len with
     | zero=>cases cap with
       |zero=>exact .nils
       |succ n=>exact .poison _
     |succ n=>exact .poison _
   | some a=>
     simp only [ji]
     split
     . rename_i hlc
       split
       . rename_i h
         refine .slice hlc ?_
         have:=arel_W h
         obtain⟨b,o,s⟩:=a
         obtain⟨h1,h2⟩:=h
         simp only []at h1 h2
         subst h1
         unfold dw
         rw [mh]
         rw [zP h2]
         cases W.heap[b]<;>simp
       . refine .slice hlc ?_
         unfold dw
         have:muW W 0=.dead:=by simp [muW]
         rw [this]
         exact zU _
     . exact .poison _
theorem vrel_A(W:World)(v:Value):ao (muW W) (absA W.heap.size v) v:=by
 cases v
 case agg cs=>
  refine .agg (by simp) fun i x x' h1 h2=>?_
  simp only [zX,zY]at h1
  obtain⟨y,h3,rfl⟩:=h1
  rw [h3]at h2
  cases h2
  exact vrel_V W _
 all_goals (unfold absA;exact vrel_V W _)
theorem hrelW(W:World):aJ (muW W) (hpW W) W:=by
 refine⟨hpW_ok W,fun b c base top hm=>?_,fun b hm=>?_,fun b b' c base top base' top' h1 h2=>?_,fun b hm=>?_⟩
 . have hb:16<=b:=by
    rcases zW b 16 with h|h
    . unfold muW at hm;rw [if_pos h]at hm;cases hm
    . exact h
   obtain⟨k,rfl⟩: ∃k,b=k+16:=⟨b-16,by omega⟩
   rw [mh]at hm
   split at hm
   next cs el fz ho=>
    cases hm
    refine⟨absO W.heap.size (.cells cs el fz),_,by rw [qj,ho];rfl,ho,cs,el,fz,rfl,rfl,by simp,Tr.sized_ofList _,fun i v hv=>?_,fun h=>absurd rfl h⟩
    rw [Tr.get_ofList]at hv
    simp only [zX,zY]at hv
    obtain⟨y,h3,rfl⟩:=hv
    exact⟨y,by simpa using h3,vrel_V W y⟩
   next=>cases hm
   next=>cases hm
 . rcases zW b 16 with h|h
   . exact hpW_dead W h
   . obtain⟨k,rfl⟩: ∃k,b=k+16:=⟨b-16,by omega⟩
     rw [mh]at hm
     split at hm
     next=>cases hm
     next o ho1 ho2=>
      rw [qj,ho2]
      cases o<;>first|rfl|exact absurd rfl (ho1 _ _ _)
     next=>cases hm
 . have key: ∀b c base top,muW W b=.blk c base top->b=c+16:=by
    intro b c base top hm
    rcases zW b 16 with h|h
    . unfold muW at hm;rw [if_pos h]at hm;cases hm
    . obtain⟨k,rfl⟩: ∃k,b=k+16:=⟨b-16,by omega⟩
      rw [mh]at hm
      split at hm<;>cases hm
      rfl
   rw [key b c _ _ h1,key b' c _ _ h2]
 . show b<16+W.heap.size
   rcases zW b 16 with h|h
   . omega
   . obtain⟨k,rfl⟩: ∃k,b=k+16:=⟨b-16,by omega⟩
     rw [mh]at hm
     have:k<W.heap.size:=by
      rcases zW k W.heap.size with h2|h2
      . exact h2
      . rw [Array.getElem?_eq_none h2]at hm;exact absurd rfl hm
     omega
theorem globW(W:World):j8 (muW W):=by
 intro g hg
 unfold dM
 have:muW W g=.dead:=by unfold muW;rw [if_pos hg]
 simp only [this]
theorem belowW{W w':World}{mu':Mu}{h':Hp}(e:Ext (muW W) (hpW W) W mu' h' w'):Below W.heap.size W w':=by
 refine⟨e.os,e.tape,e.output,e.wsize,fun c hc=>?_⟩
 cases ho:W.heap[c]with
 | cells cs el fz=>
   have h1:W.heap[c]? =some (.cells cs el fz):=by rw [zP hc,ho]
   have h2:muW W (c+16)=.blk c 0 cs.size:=by rw [mh,h1]
   exact(e.ro (c+16) c 0 cs.size _ _ 0 h2 (by rw [qj,h1];rfl)).1
 | _ =>
   refine e.frame c hc fun b base top hm=>?_
   rcases zW b 16 with h|h
   . unfold muW at hm;rw [if_pos h]at hm;cases hm
   . obtain⟨k,rfl⟩: ∃k,b=k+16:=⟨b-16,by omega⟩
     rw [mh]at hm
     split at hm
     next cs' el' fz' ho'=>
      cases hm
      rw [zP hc,ho]at ho'
      cases ho'
     next=>cases hm
     next=>cases hm
theorem calls_W{E:Env}{P:Program}(ok:EOk E P){f:FuncId}{args:Array Value}{W:World}(hr:bK E f (args.toList.map (absA W.heap.size)) (hpW W) (.bool true)):
 Calls P f args W fun e w'=>e=.returned (.bool true)/\Below W.heap.size W w':=by
 obtain⟨v,h',hl,rfl,g⟩:=hr
 intro cs
 obtain⟨_,h1⟩:=lim_ok ok _ _ _ _ _ _ _ hl
 have ha:VL (muW W) (args.toList.map (absA W.heap.size)) args.toList:=by
  refine⟨by simp,fun i x x' h1 h2=>?_⟩
  simp only [zX,zY]at h1
  obtain⟨y,h3,rfl⟩:=h1
  rw [h3]at h2
  cases h2
  exact vrel_A W _
 obtain⟨mu',w',rcC',fr,k1,k2,k3,k4,k5,k6,k7⟩:=h1 (muW W) W args none cs .normal (hrelW W) (globW W) ha trivial (.inl rfl)
 have:=k4.normal
 subst this
 obtain⟨v',l1,l2⟩:=k6
 cases l2
 obtain⟨fn,r1,r2⟩:=l1.res
 exact⟨.returned (.bool true),w',fr,⟨rfl,belowW k2⟩,k5,k7,l1.mode,l1.defers,l1.kind,fn,r1,r2⟩
theorem load_W{W:World}{a:Addr}{i:Nat}{v:Value}(hsp:a.spot=none)(h:W.cell? (a.add i)=some v):(hpW W).load (a.block+16) (a.off+i) 1=some [ji W.heap.size v]:=by
 obtain⟨b,o,s⟩:=a
 simp only []at hsp
 subst hsp
 have he:(Addr.mk b o none).add i=⟨b,o+i,none⟩:=by
  unfold Addr.add
  split
  . rename_i h;subst h;rfl
  . rfl
 rw [he]at h
 unfold World.cell? at h
 simp only []at h
 split at h
 next cs el fz ho=>
  have hr:Row (hpW W) (b+16) (cs.toList.map (ji W.heap.size)) 0:=⟨_,_,by rw [qj,ho];rfl,Tr.sized_ofList _,fun j=>Tr.get_ofList _ j⟩
  refine hr.load1 ?_
  rw [zX]
  simp at h
  simp [h]
 all_goals (first|cases h|skip)
end
end Go.Ab

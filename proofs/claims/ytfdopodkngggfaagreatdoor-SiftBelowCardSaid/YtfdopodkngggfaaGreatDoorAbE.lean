/- A deterministic evaluator of the model's code, and that the model follows it (part 5). -/
import Derived.Test.YtfdopodkngggfaaGreatDoorAbD
import Derived.ChangeSame
import Derived.RowKit3
import Derived.JoinedOf
import Derived.KernelRfl
import Derived.WalkKit
import Derived.ProofKit
import Derived.OpenShut
import Derived.Carry
open Iff renaming rfl->zM
open Nat renaming ble->zO,beq->Xd,eq_of_beq_eq_true->Xe,ble_eq_true_of_le->Xf,le_refl->Xg,lt_or_ge->Xi,blt->Xo
open List renaming getElem?_append_right->Xa,map_congr_left->Xc,getElem?_append_left->Xh,getElem?_map->Xj,mem_cons_self->Xl,append_assoc->Xm,drop_eq_getElem_cons->Xn,replicate->Xp
open Array renaming getElem?_eq_getElem->Xb,map_congr_left->Xq
open Option renaming map_eq_some_iff->Xk
set_option maxHeartbeats 400000
set_option linter.defProp false
set_option linter.unusedVariables false
set_option linter.unusedSimpArgs false
namespace Go.Ab

def RLe(R b:Rec):Prop:=(∀f a d h o,R.call f a d h=some o->b.call f a d h=some o)/\(∀e c l h o,R.code e c l h=some o->b.code e c l h=some o)
def nH{α:Type}(F:Rec->Option α):Prop:= ∀R a,RLe R a-> ∀o,F R=some o->F a=some o
theorem nH.const{α:Type}(x:Option α):nH (fun _=>x):=fun _ _ _ _ h=>h
theorem nH.bind{α e:Type}{F:Rec->Option α}{G:α->Rec->Option e}(f:nH F)(g: ∀a,nH (G a)):nH (fun R=>(F R).bind fun a=>G a R):=by
 intro R c d o h
 simp only []at h⊢
 cases b:F R with
 |none=>rw [b]at h;cases h
 | some a=>
   rw [b]at h
   rw [f R c d a b]
   exact g a R c d o h

theorem RLe.refl(R:Rec):RLe R R:=⟨fun _ _ _ _ _ h=>h,fun _ _ _ _ _ h=>h⟩
theorem RLe.trans{a b c:Rec}(h:RLe a b)(k:RLe b c):RLe a c:=⟨fun f x g d o e=>k.1 _ _ _ _ _ (h.1 _ _ _ _ _ e),fun i x l d o e=>k.2 _ _ _ _ _ (h.2 _ _ _ _ _ e)⟩

def MC(E:Env)(W:Rec){α:Type}(F:Rec->Option α):Prop:=nH F/\ ∀o,F W=some o-> ∃n,F (run E n)=some o

section
variable{E:Env}{W:Rec}
theorem MC.const{α:Type}(x:Option α):MC E W (fun _=>x):=⟨.const x,fun _ h=>⟨0,h⟩⟩
theorem MC.bind(e: ∀n m,n<=m->RLe (run E n) (run E m)){α f:Type}{F:Rec->Option α}{G:α->Rec->Option f}(b:MC E W F)(c: ∀a,MC E W (G a)):MC E W (fun R=>(F R).bind fun a=>G a R):=by
 refine⟨b.1.bind fun a=>(c a).1,fun o h=>?_⟩
 simp only []at h
 cases d:F W with
 |none=>rw [d]at h;cases h
 | some a=>
   rw [d]at h
   obtain⟨n,g⟩:=b.2 a d
   obtain⟨m,i⟩:=(c a).2 o h
   refine⟨n+m,?_⟩
   simp only []
   rw [b.1 _ _ (e n (n+m) (by omega)) a g]
   exact(c a).1 _ _ (e m (n+m) (by omega)) o i
theorem MC.congr{α:Type}{F F':Rec->Option α}(e: ∀R,F' R=F R)(h:MC E W F):MC E W F':=by
 have:F'=F:=funext e
 rw [this];exact h
end

section
variable(E:Env)
structure Closed(E:Env)(K: ∀{α:Type},(Rec->Option α)->Prop):Prop where
 const: ∀{α:Type} (x:Option α),K (fun _=>x)
 bind: ∀{α β:Type} {F:Rec->Option α} {G:α->Rec->Option β},K F->(∀a,K (G a))->K (fun R=>(F R).bind fun a=>G a R)
 congr: ∀{α:Type} {F F':Rec->Option α},(∀R,F' R=F R)->K F->K F'
 call: ∀f a rc h,K (fun R=>R.call f a rc h)
 code: ∀cx c l h,K (fun R=>R.code cx c l h)
end

section
variable{E:Env}{K: ∀{α:Type},(Rec->Option α)->Prop}(C:Closed E K)
include C

theorem k_round (b:Nat) (args:List Value) (h:Hp):K (fun R=>iT E R b args h):=by
 unfold iT
 cases m:h.get b with
 |none=>exact C.const _
 | some x =>
   cases x<;>(try exact C.const _)
   rename_i r
   simp only []
   cases(E.fn r.fn).isSome with
   |false=>exact C.const _
   | true =>
     simp only [cond_true]
     split
     next l =>
      split
      next=>exact C.const _
      next c i=>
       refine C.congr (F:=fun R=>(R.code ⟨r.fn,r.nr,some b⟩ r.assign ⟨c,[],none⟩ h).bind fun q=>match q with
        | (.normal,g,d)=>match d.get b with
          | some (.loop e)=>match e.st with
            | 0 =>(R.code ⟨r.fn,r.nr,some b⟩ r.body g (d.put b (.loop {e with st:=1}))).bind fun q=>match q with
              | (.normal,_,a)=>match a.get b with
                |some (.loop f)=>some (.ret (.bool true),a.put b (.loop {f with st:=0,pending:=none}))
                |_=>none
              | (.exit id,_,a)=>match a.get b with
                |some (.loop f)=>some (.ret (.bool false),a.put b (.loop {f with st:=2,pending:=some (.exit id)}))
                |_=>none
              | (.ret,_,a)=>match a.get b with
                |some (.loop f)=>some (.ret (.bool false),a.put b (.loop {f with st:=2,pending:=some .ret}))
                |_=>none
              | (.pan v,j,a)=>match j.dfs with
                | []=>some (.pan v,a)
                |_=>none
            |_=>none
          |_=>none
        |_=>none) ?_ ?_
       . intro R
         cases R.code ⟨r.fn,r.nr,some b⟩ r.assign ⟨c,[],none⟩ h with
         |none=>rfl
         | some q=>
           obtain⟨x,g,d⟩:=q
           cases x<;>(try rfl)
           simp only [Option.bind_some]
           cases d.get b with
           |none=>rfl
           | some y=>
             cases y<;>(try rfl)
             rename_i e
             simp only []
             cases k:e.st with
             | zero=>
               simp only []
               cases R.code ⟨r.fn,r.nr,some b⟩ r.body g (d.put b (.loop {e with st:=1}))with
               |none=>rfl
               |some q=>obtain⟨x,j,a⟩:=q;cases x<;>rfl
             |succ n=>rfl
       . refine C.bind (C.code _ _ _ _) fun q=>?_
         obtain⟨x,g,d⟩:=q
         cases x<;>(try exact C.const _)
         simp only []
         cases d.get b with
         |none=>exact C.const _
         | some y=>
           cases y<;>(try exact C.const _)
           simp only []
           split
           . refine C.bind (C.code _ _ _ _) fun q=>?_
             exact C.const _
           . exact C.const _
     next=>exact C.const _

theorem uI(x:Option (di×Hp)):K (fun R=>cN E R x):=by
 cases x with
 |none=>exact C.const _
 | some q=>
   obtain⟨e,h⟩:=q
   cases e<;>(try exact C.const _)
   . rename_i f d
     refine C.congr (F:=fun R=>(R.call f d none h).bind fun q=>some (q.1,q.2.2)) (fun R=>?_) (C.bind (C.call _ _ _ _) fun _=>C.const _)
     simp only [cN]
     cases R.call f d none h with
     |none=>rfl
     |some q=>obtain⟨a,b,c⟩:=q;rfl
   . exact k_round C _ _ _

theorem k_stepOp(cx:Cx)(o:Oper)(l:Loc)(h:Hp):K (fun R=>dG E R cx o l h):=by
 unfold dG
 have a:K (fun R=>mN o l (cN E R (aop E l.ev h o.op))):=by
  refine C.congr (F:=fun R=>(cN E R (aop E l.ev h o.op)).bind fun q=>mN o l (some q)) (fun R=>?_) (C.bind (uI C _) fun _=>C.const _)
  cases cN E R (aop E l.ev h o.op)<;>rfl
 cases b:aop E l.ev h o.op with
 |none=>exact C.const _
 | some q=>
   rw [b]at a
   obtain⟨c,d⟩:=q
   cases c<;>(try exact a)
   . cases cx.round<;>exact C.const _
   . cases cx.round<;>exact C.const _

theorem ux (cx:Cx) (ops:List Oper): ∀(os:List Oper) (l:Loc) (h:Hp),K (fun R=>iU E R cx ops os l h)
 | [],l,h=>C.const _
 | o :: os,l,h=>by
   simp only [iU]
   cases cm ops l.regs o with
   |none=>exact C.const _
   | some b=>
     cases b with
     |false=>exact ux cx ops os _ _
     | true=>
       refine C.congr (F:=fun R=>(dG E R cx o l h).bind fun q=>match q with
        |(.normal,l',a)=>iU E R cx ops os l' a
        |q=>some q) (fun R=>?_) (C.bind (k_stepOp C _ _ _ _) fun q=>?_)
       . cases dG E R cx o l h with
         |none=>rfl
         |some q=>obtain⟨x,l',a⟩:=q;cases x<;>rfl
       . obtain⟨x,l',a⟩:=q
         cases x<;>first|exact ux cx ops os _ _|exact C.const _

theorem k_stepD(ρ:Operand->Value)(a:Bool)(o:Oper)(h:Hp):K (fun R=>cJ E R ρ a o h):=by
 unfold cJ
 cases a with
 | true=>
   refine C.congr (F:=fun R=>(cN E R (aop E ρ {h with lo:=h.n} o.op)).bind fun q=>match q with
    |(.ret v,b)=>bif zO h.n b.lo then some (v,{b with lo:=h.lo})else none
    |_=>none) (fun R=>?_) (C.bind (uI C _) fun _=>C.const _)
   simp only [cond_true]
   cases cN E R (aop E ρ {h with lo:=h.n} o.op)with
   |none=>rfl
   |some q=>obtain⟨x,b⟩:=q;cases x<;>rfl
 | false=>
   refine C.congr (F:=fun R=>(cN E R (aop E ρ h o.op)).bind fun q=>match q with
    |(.ret v,b)=>some (v,b)
    |_=>none) (fun R=>?_) (C.bind (uI C _) fun _=>C.const _)
   simp only [cond_false]
   cases cN E R (aop E ρ h o.op)with
   |none=>rfl
   |some q=>obtain⟨x,b⟩:=q;cases x<;>rfl

theorem si (ops:List Oper) (q:Nat): ∀(os:List Oper) (i:Nat) (l:Loc) (h:Hp) (c:List (Nat×Tch)),K (fun R=>dZ E R ops q os i l h c)
 | [],i,l,h,c=>C.const _
 | o :: os,i,l,h,c=>by
   simp only [dZ]
   cases cm ops l.regs o with
   |none=>exact C.const _
   | some b=>
     cases b with
     |false=>exact si ops q os _ _ _ _
     | true=>
       refine C.congr (F:=fun R=>(cJ E R (l.evD (tmpsOf o.op.operands.toList)) (eB E q i o.op) o h).bind fun p=>
        dZ E R ops q os (i+1) (l.put o.dst p.1) p.2 (ii i c (cH (l.evD (tmpsOf o.op.operands.toList)) (eB E q i o.op) o.op h p.2))) (fun R=>?_) (C.bind (k_stepD C _ _ _ _) fun q=>si ops _ os _ _ _ _)
       cases cJ E R (l.evD (tmpsOf o.op.operands.toList)) (eB E q i o.op) o h with
       |none=>rfl
       |some p=>obtain⟨a,b⟩:=p;rfl

theorem k_range (cx:Cx) (f:Value) (params:Array Tmp) (assign body:Code) (l:Loc) (h:Hp):K (fun R=>iv R cx f params assign body l h):=by
 unfold iv
 cases f<;>(try exact C.const _)
 rename_i t a b
 cases t<;>(try exact C.const _)
 rename_i g
 simp only []
 split
 . exact C.const _
 . rename_i e d c _
   refine C.congr (F:=fun R=>(R.call g (a.toList++[.func (.yield e.n) #[] #[]]++b.toList) none
    (e.new (.loop {fn:=cx.fn,regs:=l.regs,nr:=cx.nr,params,assign,body,st:=0,pending:=none,defers:=d}))).bind fun q=>match q with
    |(.pan v,_,i)=>some (.pan v,{l with dfs:=c},i)
    | (.ret _,_,i)=>match i.get e.n with
      | some (.loop x)=>match x.st with
        |1=>none
        | _=>match x.pending with
          |none=>some (.normal,{l with dfs:=c},i.put e.n .dead)
          |some (.exit id)=>some (.exit id,{l with dfs:=c},i.put e.n .dead)
          |some .ret=>some (.ret,{l with dfs:=c},i.put e.n .dead)
          |_=>none
      |_=>none) (fun R=>?_) (C.bind (C.call _ _ _ _) fun _=>C.const _)
   cases R.call g (a.toList++[.func (.yield e.n) #[] #[]]++b.toList) none
         (e.new (.loop {fn:=cx.fn,regs:=l.regs,nr:=cx.nr,params,assign,body,st:=0,pending:=none,defers:=d}))with
   |none=>rfl
   |some q=>obtain⟨x,y,z⟩:=q;cases x<;>rfl

theorem k_code(cx:Cx): ∀(c:Code) (l:Loc) (h:Hp),K (fun R=>aD E R cx c l h):=by
 intro c
 induction c with
 |skip=>intro l h;exact C.const _
 |label n=>intro l h;exact C.const _
 | region id d o=>
   intro l h
   simp only [aD]
   cases o with
   |false=>exact ux C _ _ _ _ _
   | true=>
     simp only [cond_true]
     cases plan E (eA d.toList)with
     |none=>exact C.const _
     | some p=>
       obtain⟨q,w⟩:=p
       simp only []
       refine C.congr (F:=fun R=>(dZ E R (eA d.toList) q (eA d.toList) 0 l h []).bind fun x=>bif eh x.2.2 w then some (.normal,x.1,x.2.1)else none) (fun R=>?_) (C.bind (si C _ _ _ _ _ _ _) fun _=>C.const _)
       cases dZ E R (eA d.toList) q (eA d.toList) 0 l h []with
       |none=>rfl
       |some x=>obtain⟨a,b,c⟩:=x;rfl
 | seq a b j k=>
   intro l h
   simp only [aD]
   refine C.congr (F:=fun R=>(aD E R cx a l h).bind fun q=>match q with
    |(.normal,e,g)=>aD E R cx b e g
    |q=>some q) (fun R=>?_) (C.bind (j _ _) fun q=>?_)
   . cases aD E R cx a l h with
     |none=>rfl
     |some q=>obtain⟨x,e,g⟩:=q;cases x<;>rfl
   . obtain⟨x,e,g⟩:=q
     cases x<;>first|exact k _ _|exact C.const _
 | cond c a b j k=>
   intro l h
   simp only [aD]
   cases l.ev c<;>(try exact C.const _)
   rename_i t
   cases t
   . exact k _ _
   . exact j _ _
 | block id b r=>
   intro l h
   simp only [aD]
   refine C.congr (F:=fun R=>(aD E R cx b l h).bind fun q=>match q with
    |(.exit i,e,g)=>bif Xd i id then some (.normal,e,g)else some (.exit i,e,g)
    |q=>some q) (fun R=>?_) (C.bind (r _ _) fun _=>C.const _)
   cases aD E R cx b l h with
   |none=>rfl
   |some q=>obtain⟨x,e,g⟩:=q;cases x<;>rfl
 | loop b r=>
   intro l h
   simp only [aD]
   refine C.congr (F:=fun R=>(aD E R cx b l h).bind fun q=>match q with
    |(.normal,e,g)=>R.code cx (.loop b) e g
    |q=>some q) (fun R=>?_) (C.bind (r _ _) fun q=>?_)
   . cases aD E R cx b l h with
     |none=>rfl
     |some q=>obtain⟨x,e,g⟩:=q;cases x<;>rfl
   . obtain⟨x,e,g⟩:=q
     cases x<;>first|exact C.code _ _ _ _|exact C.const _
 |rangeFunc f s u v _ _=>intro l h;exact k_range C _ _ _ _ _ _ _
 |exit id=>intro l h;exact C.const _
 |scope b r=>intro l h;exact r _ _
 |goto n=>intro l h;exact C.const _
 |ret=>intro l h;exact C.const _
 |refuse m=>intro l h;exact C.const _

theorem oz : ∀(e:List Deferred) (m:Option Value) (h:Hp),K (fun R=>bR R e m h)
 | [],m,h=>C.const _
 | d :: e,m,h=>by
   simp only [bR]
   cases d.target with
   |nil=>exact C.const _
   |builtin a b c d=>exact C.const _
   |coroexit=>exact C.const _
   | collected b=>
     simp only []
     cases h.get b with
     |none=>exact C.const _
     |some x=>cases x<;>first|exact oz e _ _|exact C.const _
   | fn t cap=>
     cases t<;>(try exact C.const _)
     rename_i f
     simp only []
     refine C.congr (F:=fun R=>(R.call f (d.args.toList++cap.toList) (match m with|none=>none|some v=>some (v,false)) h).bind fun q=>match q with
      | (.ret _,g,i)=>match m,g with
        |none,none=>bR R e none i
        |some _,some (_,true)=>bR R e none i
        |some _,some (v,false)=>bR R e (some v) i
        |_,_=>none
      |_=>none) (fun R=>?_) (C.bind (C.call _ _ _ _) fun q=>?_)
     . cases R.call f (d.args.toList++cap.toList) (match m with|none=>none|some v=>some (v,false)) h with
       |none=>rfl
       |some q=>obtain⟨x,y,z⟩:=q;cases x<;>rfl
     . obtain⟨x,g,i⟩:=q
       cases x with
       |pan v=>exact C.const _
       | ret v=>
         simp only []
         cases m with
         |none=>cases g<;>first|exact oz e _ _|exact C.const _
         | some j=>
           cases g with
           |none=>exact C.const _
           |some y=>obtain⟨k,b⟩:=y;cases b<;>exact oz e _ _

theorem k_body (f:FuncId) (args:List Value) (i:Option (Value×Bool)) (h:Hp):K (fun R=>jK E R f args i h):=by
 unfold jK
 cases E.fn f with
 |none=>exact C.const _
 | some b =>
   simp only []
   cases b.body with
   |none=>exact C.const _
   | some e=>
     simp only []
     cases zO args.length b.ntmps with
     |false=>exact C.const _
     | true =>
       simp only [cond_true]
       have g: ∀(l:Loc) (c:Hp),K (fun R=>match bR R l.dfs none c with
        | some (none,a)=>match aV E l.regs a b.results.toList with
          |none=>none
          |some d=>some (Out.ret (ac d),l.rc,a)
        |_=>none):=by
        intro l c
        refine C.congr (F:=fun R=>(bR R l.dfs none c).bind fun q=>match q with
         | (none,a)=>match aV E l.regs a b.results.toList with
           |none=>none
           |some d=>some (Out.ret (ac d),l.rc,a)
         |_=>none) (fun R=>?_) (C.bind (oz C _ _ _) fun _=>C.const _)
        cases bR R l.dfs none c with
        |none=>rfl
        |some q=>obtain⟨x,y⟩:=q;cases x<;>rfl
       refine C.congr (F:=fun R=>(R.code ⟨f,b.ntmps,none⟩ e ⟨(Tr.blank (.tuple #[]) b.ntmps b.ntmps).setAll 0 args,[],i⟩ h).bind fun q=>match q with
        |(.exit _,_,_)=>none
        | (.pan v,l,c)=>match bR R l.dfs (some v) c with
          |none=>none
          |some (some v,a)=>some (Out.pan v,l.rc,a)
          | some (none,a)=>match aV E l.regs a b.results.toList with
            |none=>none
            |some d=>some (Out.ret (ac d),l.rc,a)
        | (_,l,c)=>match bR R l.dfs none c with
          | some (none,a)=>match aV E l.regs a b.results.toList with
            |none=>none
            |some d=>some (Out.ret (ac d),l.rc,a)
          |_=>none) (fun R=>?_) (C.bind (C.code _ _ _ _) fun q=>?_)
       . cases R.code ⟨f,b.ntmps,none⟩ e ⟨(Tr.blank (.tuple #[]) b.ntmps b.ntmps).setAll 0 args,[],i⟩ h with
         |none=>rfl
         |some q=>obtain⟨x,y,z⟩:=q;cases x<;>rfl
       . obtain⟨x,l,c⟩:=q
         cases x with
         |exit id=>exact C.const _
         |normal=>exact g l c
         |ret=>exact g l c
         | pan v=>
           simp only []
           refine C.congr (F:=fun R=>(bR R l.dfs (some v) c).bind fun q=>match q with
            |(some v,a)=>some (Out.pan v,l.rc,a)
            | (none,a)=>match aV E l.regs a b.results.toList with
              |none=>none
              |some d=>some (Out.ret (ac d),l.rc,a)) (fun R=>?_) (C.bind (oz C _ _ _) fun _=>C.const _)
           cases bR R l.dfs (some v) c with
           |none=>rfl
           |some q=>obtain⟨x,y⟩:=q;cases x<;>rfl
theorem k_call(f:FuncId)(args:List Value)(a:Option (Value×Bool))(h:Hp):K (fun R=>iG E R f args a h):=by
 unfold iG
 cases E.orc f args with
 |none=>exact k_body C f args a h
 |some v=>cases a<;>exact C.const _
end

theorem jo(E:Env):Closed E (fun F=>nH F)where
 const:=nH.const
 bind:=fun hF hG=>hF.bind hG
 congr:=fun e h=>by have:=funext e;rw [this];exact h
 call:=fun f a rc h R R' le o=>le.1 f a rc h o
 code:=fun cx c l h R R' le o=>le.2 cx c l h o

theorem next_mono{E:Env}{R b:Rec}(h:RLe R b):RLe (next E R) (next E b):=
 ⟨fun f a g d o e=>k_call (jo E) f a g d R b h o e,fun i c l d o e=>k_code (jo E) i c l d R b h o e⟩
theorem wQ{E:Env}: ∀n,RLe (run E n) (run E (n+1))
 | 0=>by
   constructor
   . intro f a b h o e;cases e
   . intro d c l h o e;cases e
 |n+1=>next_mono (wQ n)
theorem run_up{E:Env}(n m:Nat)(h:n<=m):RLe (run E n) (run E m):=by
 induction m with
 | zero => have:n=0:=by omega
           subst this;exact RLe.refl _
 | succ m a=>
   by_cases e:n=m+1
   . subst e;exact RLe.refl _
   . exact(a (by omega)).trans (wQ m)

open Classical in
noncomputable def limOf{α:Type}(F:Nat->Option α):Option α:=if h: ∃n o,F n=some o then some (Classical.choose (Classical.choose_spec h))else none
theorem s9{α:Type}{F:Nat->Option α}(d: ∀n m,n<=m-> ∀o,F n=some o->F m=some o){o:α}:limOf F=some o↔ ∃n,F n=some o:=by
 constructor
 . intro h
   unfold limOf at h
   split at h
   . rename_i c
     cases h
     exact⟨_,Classical.choose_spec (Classical.choose_spec c)⟩
   . cases h
 . intro⟨n,h⟩
   unfold limOf
   have c: ∃n o,F n=some o:=⟨n,o,h⟩
   rw [dif_pos c]
   have e:=Classical.choose_spec (Classical.choose_spec c)
   have a:=d _ (n+Classical.choose c) (by omega) _ h
   have b:=d _ (n+Classical.choose c) (by omega) _ e
   rw [a]at b;cases b;rfl

noncomputable def lim(E:Env):Rec where
 call:=fun f a rc h=>limOf fun n=>(run E n).call f a rc h
 code:=fun cx c l h=>limOf fun n=>(run E n).code cx c l h
theorem ow{E:Env}{f:FuncId}{a:List Value}{c:Option (Value×Bool)}{h:Hp}{o:Out×Option (Value×Bool)×Hp}:(lim E).call f a c h=some o↔ ∃n,(run E n).call f a c h=some o:=
 s9 fun n m b o e=>(run_up n m b).1 _ _ _ _ _ e
theorem qh{E:Env}{cx:Cx}{c:Code}{l:Loc}{h:Hp}{o:Ex×Loc×Hp}:(lim E).code cx c l h=some o↔ ∃n,(run E n).code cx c l h=some o:=
 s9 fun n m a o e=>(run_up n m a).2 _ _ _ _ _ e
theorem run_lim{E:Env}(n:Nat):RLe (run E n) (lim E):=⟨fun _ _ _ _ _ h=>ow.2 ⟨n,h⟩,fun _ _ _ _ _ h=>qh.2 ⟨n,h⟩⟩

theorem uj(E:Env):Closed E (fun F=>MC E (lim E) F)where
 const:=MC.const
 bind:=fun hF hG=>MC.bind run_up hF hG
 congr:=fun e h=>MC.congr e h
 call:=fun f a rc h=>⟨(jo E).call f a rc h,fun _ e=>ow.1 e⟩
 code:=fun cx c l h=>⟨(jo E).code cx c l h,fun _ e=>qh.1 e⟩

theorem tY{α:Type}{x y:Option α}(h: ∀o,x=some o↔y=some o):x=y:=by
 cases x with
 | none=>cases y with
   |none=>rfl
   |some b=>exact absurd ((h b).2 rfl) (by simp)
 |some a=>exact((h a).1 rfl).symm

theorem call_eq(E:Env)(f:FuncId)(a:List Value)(b:Option (Value×Bool))(h:Hp):(lim E).call f a b h=iG E (lim E) f a b h:=by
 refine tY fun o=>⟨fun e=>?_,fun e=>?_⟩
 . obtain⟨n,c⟩:=ow.1 e
   cases n with
   |zero=>cases c
   |succ n=>exact k_call (jo E) f a b h _ _ (run_lim n) o c
 . obtain⟨n,c⟩:=(k_call (uj E) f a b h).2 o e
   exact ow.2 ⟨n+1,c⟩
theorem uA(E:Env)(cx:Cx)(c:Code)(l:Loc)(h:Hp):(lim E).code cx c l h=aD E (lim E) cx c l h:=by
 refine tY fun o=>⟨fun e=>?_,fun e=>?_⟩
 . obtain⟨n,a⟩:=qh.1 e
   cases n with
   |zero=>cases a
   |succ n=>exact k_code (jo E) cx c l h _ _ (run_lim n) o a
 . obtain⟨n,a⟩:=(k_code (uj E) cx c l h).2 o e
   exact qh.2 ⟨n+1,a⟩

theorem lim_ok{E:Env}{P:Program}(a:EOk E P):ib E P (lim E).call:=by
 intro g b j h o c k d
 obtain⟨n,e⟩:=ow.1 d
 exact(run_ok a (fun _ f i=>draw_ok a f i) n).1 _ _ _ _ _ _ _ e
end Go.Ab
namespace Go.Ab
theorem zt{E:Env}{P:Program}{R:Rec}(p:ib E P R.call){f:FuncId}{args:List Value}{v:Value}{q:Hp}(i:args.all cE=true)(l:cE v=true)
 (r:R.call f args none hp0=some (.ret v,none,q)):(∃m,E.fn f=some m/\m.body.isSome=true)/\OrcAt P f args v:=by
 obtain⟨s,t⟩:=p _ _ _ _ _ _ _ r
 refine⟨s,i,l,fun w j d u=>?_⟩
 obtain⟨y,z,e,A,J,g,B,K,C,D,F⟩:=t mu0 w ⟨args⟩ none j d (hrel0 w) glob0 (LR.refl fun a k=>aq.const mu0 (by simp only [List.all_eq_true]at i;exact i a k)) trivial u
 cases e with
 |some x=>exact B.elim
 | none=>
   obtain⟨L,n,G⟩:=D
   rw [aq.const_eq l G]at n
   exact⟨z,A,⟨fun c H=>g.frame c H (by intro b o I h;unfold mu0 at h;split at h<;>cases h),g.wsize,g.os,g.tape,g.output⟩,C,n,F⟩
theorem zD{E:Env}{P:Program}(a:EOk E P){n:Nat}{f:FuncId}{args:List Value}{v:Value}{c:Hp}(d:args.all cE=true)(e:cE v=true)
 (g:(run E n).call f args none hp0=some (.ret v,none,c)):(∃b,E.fn f=some b/\b.body.isSome=true)/\OrcAt P f args v:=
 zt (R:=run E n) (run_ok a (fun _ h i=>draw_ok a h i) n).1 d e g
end Go.Ab

namespace Go.Ab

def tabF:Nat->Nat->(Nat->Value)->Tr Value
 |0,_,_=>.nil
 | f+1,n,a=>match n with
   |0=>.nil
   |k+1=>.node (a 0) (tabF f ((k+1)/2) fun i=>a (2*i+1)) (tabF f (k/2) fun i=>a (2*i+2))
def tab(n:Nat)(ρ:Nat->Value):Tr Value:=tabF n n ρ
theorem get_tabF(f n:Nat)(ρ:Nat->Value)(h:n<=f)(j:Nat):(tabF f n ρ).get j=if j<n then some (ρ j)else none:=by
 induction f generalizing n j ρ with
 | zero => have:n=0:=by omega
           subst this;simp [tabF,Tr.get_nil]
 | succ f a=>
   cases n with
   |zero=>simp [tabF,Tr.get_nil]
   | succ k=>
     simp only [tabF]
     rw [Tr.get_node]
     cases j with
     |zero=>simp
     | succ m=>
       simp only []
       by_cases b:m%2=0
       . simp only [b,if_true];rw [a _ _ (by omega) (m/2)]
         have:m/2<(k+1)/2↔m+1<k+1:=by omega
         simp only [this,show 2*(m/2)+1=m+1 by omega]
       . simp only [b,if_false];rw [a _ _ (by omega) (m/2)]
         have:m/2<k/2↔m+1<k+1:=by omega
         simp only [this,show 2*(m/2)+2=m+1 by omega]
theorem lc(n:Nat)(ρ:Nat->Value)(j:Nat):(tab n ρ).get j=if j<n then some (ρ j)else none:=get_tabF n n ρ (Xg _) j
theorem Tr.ext{α:Type}{t t':Tr α}(h: ∀i,t.get i=t'.get i):t=t':=by
 induction t generalizing t' with
 | nil=>
   cases t' with
   |nil=>rfl
   |node y l r=>have:=h 0;simp [Tr.get_nil,Tr.get_node]at this
 | node x l r a b=>
   cases t' with
   |nil=>have:=h 0;simp [Tr.get_nil,Tr.get_node]at this
   | node y d e=>
     have c:=h 0
     simp [Tr.get_node]at c
     subst c
     rw [a (t':=d) (fun i=>by have:=h (2*i+1);simp only [Tr.get_node]at this;rw [if_pos (by omega),if_pos (by omega),show 2*i/2=i by omega]at this;exact this),
      b (t':=e) (fun i=>by have:=h (2*i+2);simp only [Tr.get_node]at this;rw [if_neg (by omega),if_neg (by omega),show(2*i+1)/2=i by omega]at this;exact this)]

def aa(ρ:Nat->Value)(t:Nat)(v:Value):Nat->Value:=fun i=>if i=t then v else ρ i
theorem aJ(ρ:Nat->Value)(t:Nat)(v:Value)(i:Nat):aa ρ t v i=if i=t then v else ρ i:=rfl
theorem tab_set(n:Nat)(ρ:Nat->Value)(t:Nat)(v:Value):(tab n ρ).set t v=tab n (aa ρ t v):=by
 apply Tr.ext
 intro i
 rw [Tr.get_set,lc,lc]
 by_cases a:i<n
 . by_cases e:t=i
   . subst e;simp [a,aa]
   . simp [a,e,aa,Ne.symm e]
 . simp [a]
def bQ:List Value->Nat->Value
 | [],_=>.tuple #[]
 | v::l,i=>match i with
   |0=>v
   |i+1=>bQ l i
theorem argR_eq(l:List Value)(i:Nat):bQ l i=(l[i]?).getD (.tuple #[]):=by
 induction l generalizing i with
 |nil=>rfl
 | cons v l a=>cases i with
   |zero=>rfl
   |succ i=>simp [bQ,a]
theorem args_tab{n:Nat}{args:List Value}(h:args.length<=n):(Tr.blank (.tuple #[]) n n:Tr Value).setAll 0 args=tab n (bQ args):=by
 apply Tr.ext
 intro i
 rw [Tr.get_setAll _ 0 args n (Tr.sized_blank _ _ _ (Xg _)) (by omega),lc,Tr.get_blank _ _ _ (Xg _),argR_eq]
 by_cases b:i<args.length
 . rw [if_pos ⟨Nat.zero_le _,by omega⟩,if_pos (by omega)];simp [b]
 . rw [if_neg (by omega)]
   by_cases a:i<n
   . simp [a];rw [List.getElem?_eq_none (by omega)];rfl
   . simp [a]

def LL(n:Nat)(ρ:Nat->Value)(d:List Deferred)(a:Option (Value×Bool)):Loc:=⟨tab n ρ,d,a⟩
theorem c9(n:Nat)(ρ:Nat->Value)(d:List Deferred)(a:Option (Value×Bool))(t:Nat)(v:Value):(LL n ρ d a).put (some t) v=LL n (aa ρ t v) d a:=by
 simp only [LL,Loc.put,tab_set]
theorem ll_put0(l:Loc)(v:Value):l.put none v=l:=rfl
theorem bS(n:Nat)(ρ:Nat->Value)(d:List Deferred)(a:Option (Value×Bool))(t:Nat)(h:t<n):(LL n ρ d a).ev (.tmp t)=ρ t:=by
 simp only [LL,Loc.ev,lc,if_pos h]
theorem ll_func(l:Loc)(f:Nat):l.ev (.func f)=.func (.func f) #[] #[]:=rfl
theorem ll_regs(n:Nat)(ρ:Nat->Value)(d:List Deferred)(a:Option (Value×Bool)):(LL n ρ d a).regs=tab n ρ:=rfl
def Then(x:Option (Ex×Loc×Hp))(K:Ex->Loc->Hp->Prop):Prop:= ∃e l h,x=some (e,l,h)/\K e l h
theorem fD{e:Ex}{l:Loc}{h:Hp}{K:Ex->Loc->Hp->Prop}:Then (some (e,l,h)) K↔K e l h:=by
 constructor
 . intro⟨_,_,_,b,a⟩;cases b;exact a
 . intro a;exact⟨_,_,_,rfl,a⟩

abbrev eG:=Ex->Loc->Hp->Prop
inductive Fr where
 |code (c:Code)
 |blk (id:Nat)
 |ops (all os:List Oper)
 |opsD (all:List Oper) (q:Nat) (ps:List (Nat×Nat)) (os:List Oper) (i:Nat) (tr:List (Nat×Tch))
section
variable(E:Env)(R:Rec)(cx:Cx)(Q:eG)
def Run:List Fr->Ex->Loc->Hp->Prop
 | [],e,l,h=>Q e l h
 | .code c::k,.normal,l,h=> ∃f b d,aD E R cx c l h=some (f,b,d)/\Run k f b d
 | .ops a j::k,.normal,l,h=> ∃f b d,iU E R cx a j l h=some (f,b,d)/\Run k f b d
 | .opsD a q m j i n::k,.normal,l,h=> ∃b d g,dZ E R a q j i l h n=some (b,d,g)/\eh g m=true/\Run k .normal b d
 | .blk _::k,.normal,l,h=>Run k .normal l h
 | .blk id::k,.exit i,l,h=>if i=id then Run k .normal l h else Run k (.exit i) l h
 |_::k,.exit i,l,h=>Run k (.exit i) l h
 |_::k,.ret,l,h=>Run k .ret l h
 |_::k,.pan v,l,h=>Run k (.pan v) l h
end
section
variable{E:Env}{R:Rec}{cx:Cx}{Q:eG}{k:List Fr}{l:Loc}{h:Hp}

theorem run_nil{e:Ex}:Run E R cx Q [] e l h↔Q e l h:=zM
theorem run_skip:Run E R cx Q (.code .skip::k) .normal l h↔Run E R cx Q k .normal l h:=by simp only [Run,aD];exact fD
theorem run_label{n:Nat}:Run E R cx Q (.code (.label n)::k) .normal l h↔Run E R cx Q k .normal l h:=by simp only [Run,aD];exact fD
theorem run_seq{a b:Code}:Run E R cx Q (.code (.seq a b)::k) .normal l h↔Run E R cx Q (.code a:: .code b::k) .normal l h:=by
 simp only [Run,aD]
 constructor
 . intro⟨e',l',h',c,h2⟩
   cases e:aD E R cx a l h with
   |none=>rw [e]at c;cases c
   | some q=>
     obtain⟨x,f,d⟩:=q
     rw [e]at c
     refine⟨x,f,d,rfl,?_⟩
     cases x with
     |normal=>exact⟨e',l',h',c,h2⟩
     |exit i=>cases c;exact h2
     |ret=>cases c;exact h2
     |pan v=>cases c;exact h2
 . intro⟨x,f,d,e,h2⟩
   rw [e]
   cases x with
   |normal=>exact h2
   |exit i=>exact⟨_,_,_,rfl,h2⟩
   |ret=>exact⟨_,_,_,rfl,h2⟩
   |pan v=>exact⟨_,_,_,rfl,h2⟩
theorem run_block {id:Nat} {b:Code}:Run E R cx Q (.code (.block id b)::k) .normal l h↔Run E R cx Q (.code b:: .blk id::k) .normal l h:=by
 simp only [Run,aD]
 constructor
 . intro ⟨e',l',h',a,h2⟩
   cases f:aD E R cx b l h with
   |none=>rw [f]at a;cases a
   | some q=>
     obtain⟨x,g,d⟩:=q
     rw [f]at a
     refine⟨x,g,d,rfl,?_⟩
     cases x with
     |normal=>cases a;exact h2
     | exit i=>
       simp only []at a
       cases c:Xd i id with
       |true=>rw [c]at a;cases a;have:=Xe c;subst this;simp only [Run,if_true];exact h2
       | false=>
         rw [c]at a;cases a
         simp only [Run]
         rw [if_neg (by intro e;subst e;rw [Nat.beq_refl]at c;cases c)];exact h2
     |ret=>cases a;exact h2
     |pan v=>cases a;exact h2
 . intro⟨x,g,d,f,h2⟩
   rw [f]
   cases x with
   |normal=>exact⟨_,_,_,rfl,h2⟩
   | exit i=>
     simp only [Run]at h2
     simp only []
     by_cases c:i=id
     . subst c;rw [if_pos rfl]at h2;rw [Nat.beq_refl];exact⟨_,_,_,rfl,h2⟩
     . rw [if_neg c]at h2
       have:Xd i id=false:=by
        cases j:Xd i id with
        |false=>rfl
        |true=>exact absurd (Xe j) c
       rw [this];exact⟨_,_,_,rfl,h2⟩
   |ret=>exact⟨_,_,_,rfl,h2⟩
   |pan v=>exact⟨_,_,_,rfl,h2⟩
theorem run_scope{b:Code}:Run E R cx Q (.code (.scope b)::k) .normal l h↔Run E R cx Q (.code b::k) .normal l h:=zM
theorem run_blk{id:Nat}:Run E R cx Q (.blk id::k) .normal l h↔Run E R cx Q k .normal l h:=zM
theorem run_exit{id:Nat}:Run E R cx Q (.code (.exit id)::k) .normal l h↔Run E R cx Q k (.exit id) l h:=by simp only [Run,aD];exact fD
theorem run_ret:Run E R cx Q (.code .ret::k) .normal l h↔Run E R cx Q k .ret l h:=by simp only [Run,aD];exact fD
theorem yE{id i:Nat}:Run E R cx Q (.blk id::k) (.exit i) l h↔if i=id then Run E R cx Q k .normal l h else Run E R cx Q k (.exit i) l h:=zM
theorem wE{c:Code}{i:Nat}:Run E R cx Q (.code c::k) (.exit i) l h↔Run E R cx Q k (.exit i) l h:=zM
theorem yb{a os:List Oper}{i:Nat}:Run E R cx Q (.ops a os::k) (.exit i) l h↔Run E R cx Q k (.exit i) l h:=zM
theorem Aw{f:Fr}:Run E R cx Q (f::k) .ret l h↔Run E R cx Q k .ret l h:=by cases f<;>exact zM
theorem AB{f:Fr}{v:Value}:Run E R cx Q (f::k) (.pan v) l h↔Run E R cx Q k (.pan v) l h:=by cases f<;>exact zM
theorem run_cond{c:Operand}{a b:Code}:Run E R cx Q (.code (.cond c a b)::k) .normal l h↔ ∃t,l.ev c=.bool t/\if t=true then Run E R cx Q (.code a::k) .normal l h else Run E R cx Q (.code b::k) .normal l h:=by
 simp only [Run,aD]
 constructor
 . intro⟨e',l',h',d,h2⟩
   cases e:l.ev c<;>rw [e]at d<;>(try (cases d;done))
   rename_i t
   cases t with
   |true=>exact⟨true,rfl,by rw [if_pos rfl];exact⟨e',l',h',d,h2⟩⟩
   |false=>exact⟨false,rfl,by rw [if_neg (by simp)];exact⟨e',l',h',d,h2⟩⟩
 . intro⟨t,e,h2⟩
   rw [e]
   cases t with
   |true=>rw [if_pos rfl]at h2;exact h2
   |false=>rw [if_neg (by simp)]at h2;exact h2
theorem zL{id:Nat}{ops:Array Oper}:Run E R cx Q (.code (.region id ops false)::k) .normal l h↔Run E R cx Q (.ops ops.toList ops.toList::k) .normal l h:=by simp only [Run,aD,cond_false]
theorem yI{a:List Oper}:Run E R cx Q (.ops a []::k) .normal l h↔Run E R cx Q k .normal l h:=by simp only [Run,iU];exact fD
theorem xH{a os:List Oper}{o:Oper}:Run E R cx Q (.ops a (o::os)::k) .normal l h↔ ∃b,cm a l.regs o=some b/\
 (if b=true then Then (dG E R cx o l h) fun e l' g=>Run E R cx Q (.ops a os::k) e l' g else Run E R cx Q (.ops a os::k) .normal (l.put o.dst (.tuple #[])) h):=by
 simp only [Run,iU]
 constructor
 . intro ⟨e',l',g,d,c⟩
   cases j:cm a l.regs o with
   |none=>rw [j]at d;cases d
   | some b=>
     rw [j]at d
     refine⟨b,rfl,?_⟩
     cases b with
     |false=>rw [if_neg (by simp)];exact⟨e',l',g,d,c⟩
     | true=>
       rw [if_pos rfl]
       simp only []at d
       cases m:dG E R cx o l h with
       |none=>rw [m]at d;cases d
       | some q=>
         obtain⟨x,n,f⟩:=q
         rw [m]at d
         refine⟨x,n,f,rfl,?_⟩
         cases x with
         |normal=>exact⟨e',l',g,d,c⟩
         |exit i=>cases d;exact c
         |ret=>cases d;exact c
         |pan v=>cases d;exact c
 . intro⟨b,j,c⟩
   rw [j]
   cases b with
   |false=>rw [if_neg (by simp)]at c;exact c
   | true=>
     rw [if_pos rfl]at c
     obtain⟨x,n,f,m,c⟩:=c
     simp only [m]
     cases x with
     |normal=>exact c
     |exit i=>exact⟨_,_,_,rfl,c⟩
     |ret=>exact⟨_,_,_,rfl,c⟩
     |pan v=>exact⟨_,_,_,rfl,c⟩

theorem run_draw{id:Nat}{ops:Array Oper}{q:Nat}{ps:List (Nat×Nat)}{os:List Oper}(g:eA ops.toList=os)(i:plan E os=some (q,ps)):Run E R cx Q (.code (.region id ops true)::k) .normal l h↔Run E R cx Q (.opsD os q ps os 0 []::k) .normal l h:=by
 simp only [Run,aD,cond_true,g,i]
 constructor
 . intro⟨e',l',h',d,h2⟩
   cases f:dZ E R os q os 0 l h []with
   |none=>rw [f]at d;cases d
   | some x=>
     obtain⟨a,b,c⟩:=x
     rw [f]at d
     simp only []at d
     cases e:eh c ps with
     |false=>rw [e]at d;cases d
     |true=>rw [e]at d;cases d;exact⟨_,_,_,rfl,e,h2⟩
 . intro⟨l',h',tr',f,e,h2⟩
   rw [f]
   simp only [e,cond_true]
   exact⟨_,_,_,rfl,h2⟩
theorem w7{a:List Oper}{q i:Nat}{ps:List (Nat×Nat)}{d:List (Nat×Tch)}:Run E R cx Q (.opsD a q ps [] i d::k) .normal l h↔eh d ps=true/\Run E R cx Q k .normal l h:=by
 simp only [Run,dZ]
 constructor
 . intro⟨_,_,_,a,b,c⟩;cases a;exact⟨b,c⟩
 . intro⟨b,c⟩;exact⟨_,_,_,rfl,b,c⟩
theorem wg{a os:List Oper}{o:Oper}{q i:Nat}{ps:List (Nat×Nat)}{j:List (Nat×Tch)}:Run E R cx Q (.opsD a q ps (o::os) i j::k) .normal l h↔ ∃b,cm a l.regs o=some b/\
 (if b=true then∃v e,cJ E R (l.evD (tmpsOf o.op.operands.toList)) (eB E q i o.op) o h=some (v,e)/\
     Run E R cx Q (.opsD a q ps os (i+1) (ii i j (cH (l.evD (tmpsOf o.op.operands.toList)) (eB E q i o.op) o.op h e))::k) .normal (l.put o.dst v) e
   else Run E R cx Q (.opsD a q ps os (i+1) j::k) .normal (l.put o.dst (.tuple #[])) h):=by
 simp only [Run,dZ]
 constructor
 . intro⟨l',e,tr',c,d,h3⟩
   cases f:cm a l.regs o with
   |none=>rw [f]at c;cases c
   | some b=>
     rw [f]at c
     refine⟨b,rfl,?_⟩
     cases b with
     |false=>rw [if_neg (by simp)];exact⟨l',e,tr',c,d,h3⟩
     | true=>
       rw [if_pos rfl]
       simp only []at c
       cases g:cJ E R (l.evD (tmpsOf o.op.operands.toList)) (eB E q i o.op) o h with
       |none=>rw [g]at c;cases c
       |some p=>obtain⟨v,m⟩:=p;rw [g]at c;exact⟨v,m,rfl,l',e,tr',c,d,h3⟩
 . intro⟨b,f,d⟩
   rw [f]
   cases b with
   |false=>rw [if_neg (by simp)]at d;exact d
   | true=>
     rw [if_pos rfl]at d
     obtain⟨v,m,g,d⟩:=d
     simp only [g]
     exact d
end
end Go.Ab

namespace Go.Ab

noncomputable def envOf(a:Tr Func)(b:Tr TypeInfo)(c:List Nat):Env:={fn:=fun f=>a.get f,ty:=fun t=>b.get t,eqok:=fun t=>memb t c}

theorem yq{P:Program}{f:FuncId}{b:Func}(hf:P.funcs[f]? =some b)(e:b.body.isSome=true)(c:(b.name== "runtime.NumGoroutine")=false)(args:Array Value)(w:World):
 (callFunc f args).run P w=.ok (.enter f args) w:=by
 have a:b.body.isNone=false:=by cases h:b.body<;>simp_all
 unfold callFunc
 have d:program.run P w=.ok P w:=rfl
 simp only [Sem.run_bind,d,Result.andThen_ok,hf,c,a,Bool.false_eq_true,if_false,Sem.run_pure]

theorem eok_of{P:Program}{fns:Tr Func}{tys:Tr TypeInfo}{eqs:List Nat}(h1:fns=Tr.ofList P.funcs.toList)(h2:tys=Tr.ofList P.types.toList)
 (h3:(P.funcs.toList.all fun fn=>fn.body.isNone|| !(fn.name== "runtime.NumGoroutine"))=true) (h4:(eqs.all fun t=>!P.stoodInHeld t&& !P.eqGuardType P.depth t)=true)
 (h5:P.follows .mixedOrders=true):EOk (envOf fns tys eqs) P where
 fn:=by
  intro f fn h
  have h':fns.get f=some fn:=h
  rw [h1,Tr.get_ofList]at h'
  simpa using h'
 call:=by
  intro f fn args w h hb
  have h':fns.get f=some fn:=h
  rw [h1,Tr.get_ofList]at h'
  have hm:=List.mem_of_getElem? h'
  have:=(List.all_eq_true.1 h3) fn hm
  refine yq (by simpa using h') hb ?_ args w
  cases hn:(fn.name== "runtime.NumGoroutine")with
  |false=>rfl
  |true=>rw [hn]at this;cases hx:fn.body<;>simp_all
 ty:=by
  intro t i h
  have h':tys.get t=some i:=h
  rw [h2,Tr.get_ofList]at h'
  show P.toTables.info? t=some i
  have hk:P.types[t]? =some i:=by simpa using h'
  unfold Tables.info?
  rw [if_pos (Array.getElem?_eq_some_iff.1 hk).1];exact hk
 eq:=by
  intro t h
  have hm:t∈eqs:=(l9 t eqs).1 h
  have:=(List.all_eq_true.1 h4) t hm
  simp only [Bool.and_eq_true,Bool.not_eq_true']at this
  exact this
 mixed:=h5
 orc:=by
  intro g args v h
  cases h
noncomputable def pG(E:Env)(o:Nat->List Value->Option Value):Env:={E with orc:=o}
theorem eok_with{E:Env}{P:Program}(ok:EOk E P){o:Nat->List Value->Option Value}(ho: ∀g args v,o g args=some v->(∃fn,E.fn g=some fn/\fn.body.isSome=true)/\OrcAt P g args v):EOk (pG E o) P where
 fn:=ok.fn
 call:=ok.call
 ty:=ok.ty
 eq:=ok.eq
 mixed:=ok.mixed
 orc:=ho
end Go.Ab
namespace Go.Ab
open Go.ChangeShapes Go.WideShapes
variable{H:Type}{enc:TypeId×Value->H}{P:Program}
end Go.Ab

namespace Go.Ab

def fS(E:Env)(f:FuncId)(args:List Value)(c:Option (Value×Bool))(h:Hp)(Q:Out->Option (Value×Bool)->Hp->Prop):Prop:= ∃o a b,(lim E).call f args c h=some (o,a,b)/\Q o a b
def Ret(E:Env)(f:FuncId)(args:List Value)(h:Hp)(Q:Value->Hp->Prop):Prop:= ∃v a,(lim E).call f args none h=some (.ret v,none,a)/\Q v a
theorem Ret.mono{E:Env}{f:FuncId}{args:List Value}{h:Hp}{Q d:Value->Hp->Prop}(k: ∀v c,Q v c->d v c)(r:Ret E f args h Q):Ret E f args h d:=by
 obtain⟨v,c,a,b⟩:=r;exact⟨v,c,a,k v c b⟩
def kw(E:Env)(b:Nat)(args:List Value)(h:Hp)(Q:Out->Hp->Prop):Prop:= ∃o a,iT E (lim E) b args h=some (o,a)/\Q o a

section
variable(E:Env)(cx:Cx)(o:Oper)(l:Loc)(K:Ex->Loc->Hp->Prop)
def eZ:Option (di×Hp)->Prop
 |some (.val v,a)=>K .normal (l.put o.dst v) a
 |some (.skip,a)=>K .normal (l.put o.dst (.tuple #[])) a
 | some (.call f c,a)=>fS E f c none a fun x _ e=>match x with
   | .ret v=>K .normal (l.put o.dst v) e
   | .pan v=>K (.pan v) l e
 | some (.yield b c,a)=>kw E b c a fun x e=>match x with
   | .ret v=>K .normal (l.put o.dst v) e
   | .pan v=>K (.pan v) l e
 |some (.panic v,a)=>K (.pan v) l a
 | some (.recov,a)=>cx.round=none/\match l.rc with
   |some (v,false)=>K .normal (({l with rc:=some (v,true)}:Loc).put o.dst v) a
   |_=>K .normal (l.put o.dst .nilIface) a
 |some (.defer d,a)=>cx.round=none/\K .normal (({l with dfs:=d::l.dfs}:Loc).put o.dst (.tuple #[])) a
 |none=>False
end
section
variable{E:Env}{cx:Cx}{o:Oper}{l:Loc}{K:Ex->Loc->Hp->Prop}{h:Hp}
theorem then_step:Then (dG E (lim E) cx o l h) K↔eZ E cx o l K (aop E l.ev h o.op):=by
 unfold dG
 cases p:aop E l.ev h o.op with
 | none=>
   simp only [eZ,cN,mN]
   exact⟨fun⟨_,_,_,i,_⟩=>(by cases i),fun h=>h.elim⟩
 | some q=>
   obtain⟨m,i⟩:=q
   cases m with
   |val v=>exact fD
   |skip=>exact fD
   |panic v=>exact fD
   | call f g=>
     simp only [eZ,cN,fS]
     constructor
     . intro⟨e,l',h',a,b⟩
       cases j:(lim E).call f g none i with
       |none=>rw [j]at a;cases a
       | some q=>
         obtain⟨x,n,k⟩:=q
         rw [j]at a
         cases x<;>(cases a;exact⟨_,_,_,rfl,b⟩)
     . intro⟨x,n,k,a,b⟩
       rw [a]
       cases x<;>exact⟨_,_,_,rfl,b⟩
   | yield b g=>
     simp only [eZ,cN,kw]
     constructor
     . intro⟨e,l',h',a,c⟩
       cases j:iT E (lim E) b g i with
       |none=>rw [j]at a;cases a
       | some q=>
         obtain⟨x,k⟩:=q
         rw [j]at a
         cases x<;>(cases a;exact⟨_,_,rfl,c⟩)
     . intro⟨x,k,a,c⟩
       rw [a]
       cases x<;>exact⟨_,_,_,rfl,c⟩
   | recov=>
     simp only [eZ]
     cases cx.round with
     |some r=>simp only [];exact⟨fun⟨_,_,_,i,_⟩=>(by cases i),fun h=>(by cases h.1)⟩
     | none=>
       simp only [true_and]
       cases l.rc with
       |none=>exact fD
       |some y=>obtain⟨v,b⟩:=y;cases b<;>exact fD
   | defer d=>
     simp only [eZ]
     cases cx.round with
     |some r=>simp only [];exact⟨fun⟨_,_,_,i,_⟩=>(by cases i),fun h=>(by cases h.1)⟩
     |none=>simp only [true_and];exact fD
theorem wD{v:Value}:eZ E cx o l K (some (.val v,h))↔K .normal (l.put o.dst v) h:=zM
theorem uL:eZ E cx o l K (some (.skip,h))↔K .normal (l.put o.dst (.tuple #[])) h:=zM
theorem uk{v:Value}:eZ E cx o l K (some (.panic v,h))↔K (.pan v) l h:=zM
theorem step_ret{f:FuncId}{args:List Value}{Q:Value->Hp->Prop}(d:Ret E f args h Q)(e: ∀v c,Q v c->K .normal (l.put o.dst v) c):eZ E cx o l K (some (.call f args,h)):=by
 obtain⟨v,c,a,b⟩:=d
 exact⟨.ret v,none,c,a,e v c b⟩
end

def nU(E:Env)(rs:List ResultVar)(Q:Out->Option (Value×Bool)->Hp->Prop):eG
 | .exit _,_,_=>False
 | .pan v,l,h=> ∃m a,bR (lim E) l.dfs (some v) h=some (m,a)/\match m with
   |some v=>Q (.pan v) l.rc a
   |none=> ∃b,aV E l.regs a rs=some b/\Q (.ret (ac b)) l.rc a
 | .normal,l,h=> ∃a,bR (lim E) l.dfs none h=some (none,a)/\ ∃b,aV E l.regs a rs=some b/\Q (.ret (ac b)) l.rc a
 | .ret,l,h=> ∃a,bR (lim E) l.dfs none h=some (none,a)/\ ∃b,aV E l.regs a rs=some b/\Q (.ret (ac b)) l.rc a

theorem enter{E:Env}{f:FuncId}{k:Func}{body:Code}{n:Nat}{rs:List ResultVar}{args:List Value}{o:Option (Value×Bool)}{h:Hp}{Q:Out->Option (Value×Bool)->Hp->Prop}
 (s:E.orc f args=none) (hf:E.fn f=some k) (t:k.body=some body) (u:k.ntmps=n) (p:k.results.toList=rs) (hle:args.length<=n)
 (w:Run E (lim E) ⟨f,n,none⟩ (nU E rs Q) [.code body] .normal (LL n (bQ args) [] o) h):fS E f args o h Q:=by
 obtain⟨e,l,x,y,j⟩:=w
 simp only [Run]at j
 unfold fS
 rw [call_eq]
 unfold iG
 rw [s]
 simp only []
 unfold jK
 rw [hf]
 simp only []
 rw [t]
 simp only []
 rw [u,Xf hle]
 simp only [cond_true]
 rw [args_tab hle]
 have g:(lim E).code ⟨f,n,none⟩ body ⟨tab n (bQ args),[],o⟩ h=some (e,l,x):=by rw [uA];exact y
 rw [g,p]
 cases e with
 |exit i=>exact j.elim
 | pan v=>
   obtain⟨m,q,a,b⟩:=j
   simp only [a]
   cases m with
   |some v=>exact⟨_,_,_,rfl,b⟩
   |none=>obtain⟨r,c,d⟩:=b;simp only [c];exact⟨_,_,_,rfl,d⟩
 |normal=>obtain⟨q,a,r,c,d⟩:=j;simp only [a,c];exact⟨_,_,_,rfl,d⟩
 |ret=>obtain⟨q,a,r,c,d⟩:=j;simp only [a,c];exact⟨_,_,_,rfl,d⟩
def RetQ(Q:Value->Hp->Prop):Out->Option (Value×Bool)->Hp->Prop
 | .ret v,none,h=>Q v h
 |_,_,_=>False
theorem ret_of{E:Env}{f:FuncId}{args:List Value}{h:Hp}{Q:Value->Hp->Prop}(hq:fS E f args none h (RetQ Q)):Ret E f args h Q:=by
 obtain⟨o,c,d,a,b⟩:=hq
 cases o with
 |pan v=>exact b.elim
 | ret v=>cases c with
   |none=>exact⟨v,d,a,b⟩
   |some y=>exact b.elim
theorem ab{E:Env}{f:FuncId}{a:Func}{body:Code}{n:Nat}{rs:List ResultVar}{args:List Value}{h:Hp}{Q:Value->Hp->Prop}
 (c:E.orc f args=none) (hf:E.fn f=some a) (d:a.body=some body) (e:a.ntmps=n) (b:a.results.toList=rs) (hle:args.length<=n)
 (g:Run E (lim E) ⟨f,n,none⟩ (nU E rs (RetQ Q)) [.code body] .normal (LL n (bQ args) [] none) h):Ret E f args h Q:=ret_of (enter c hf d e b hle g)
theorem ret_orc{E:Env}{f:FuncId}{args:List Value}{h:Hp}{v:Value}{Q:Value->Hp->Prop}(a:E.orc f args=some v)(hq:Q v h):Ret E f args h Q:=by
 refine⟨v,h,?_,hq⟩
 rw [call_eq]
 unfold iG
 rw [a]
section
variable{E:Env}{rs:List ResultVar}{Q:Value->Hp->Prop}{n:Nat}{ρ:Nat->Value}{h:Hp}
theorem uZ:nU E rs (RetQ Q) .ret (LL n ρ [] none) h↔ ∃vs,aV E (tab n ρ) h rs=some vs/\Q (ac vs) h:=by
 simp only [nU,LL,bR]
 constructor
 . intro⟨h',a,b⟩;cases a;exact b
 . intro b;exact⟨h,rfl,b⟩
theorem xC:nU E rs (RetQ Q) .normal (LL n ρ [] none) h↔ ∃vs,aV E (tab n ρ) h rs=some vs/\Q (ac vs) h:=uZ
theorem dD{P:List Value->Prop}:(∃vs,aV E (tab n ρ) h []=some vs/\P vs)↔P []:=by
 simp only [aV]
 constructor
 . intro⟨_,a,b⟩;cases a;exact b
 . intro b;exact⟨_,rfl,b⟩
theorem jt{t:Tmp}{P:List Value->Prop}(d:t<n):(∃vs,aV E (tab n ρ) h (.tmp t::rs)=some vs/\P vs)↔ ∃vs,aV E (tab n ρ) h rs=some vs/\P (ρ t::vs):=by
 simp only [aV,lc,if_pos d]
 constructor
 . intro⟨vs,a,b⟩
   cases c:aV E (tab n ρ) h rs with
   |none=>rw [c]at a;cases a
   |some l=>rw [c]at a;cases a;exact⟨l,rfl,b⟩
 . intro⟨vs,a,b⟩;rw [a];exact⟨_,rfl,b⟩
theorem cK{t:Tmp}{ty:TypeId}{v:Value}{P:List Value->Prop}(d:t<n)(e:eu E h ty (ρ t)=some v):(∃vs,aV E (tab n ρ) h (.cell t ty::rs)=some vs/\P vs)↔ ∃vs,aV E (tab n ρ) h rs=some vs/\P (v::vs):=by
 simp only [aV,lc,if_pos d,e]
 constructor
 . intro⟨vs,a,b⟩
   cases c:aV E (tab n ρ) h rs with
   |none=>rw [c]at a;cases a
   |some l=>rw [c]at a;cases a;exact⟨l,rfl,b⟩
 . intro⟨vs,a,b⟩;rw [a];exact⟨_,rfl,b⟩
end
end Go.Ab

namespace Go.Ab

structure Gr(h h':Hp):Prop where
 ok0:h.t.Sized h.n
 ok:h'.t.Sized h'.n
 n:h.n<=h'.n
 get: ∀b,b<h.n->h'.get b=h.get b
 lo: ∀x,x<=h.n->x<=h.lo->x<=h'.lo
theorem Gr.refl{h:Hp}(a:h.t.Sized h.n):Gr h h:=⟨a,a,Xg _,fun _ _=>rfl,fun _ _ h=>h⟩
theorem Gr.trans{a b c:Hp}(x:Gr a b)(y:Gr b c):Gr a c:=
 ⟨x.ok0,y.ok,Nat.le_trans x.n y.n,fun i d=>(y.get i (Nat.lt_of_lt_of_le d x.n)).trans (x.get i d),fun i e f=>y.lo i (Nat.le_trans e x.n) (x.lo i e f)⟩
theorem new_ok{h:Hp}(a:h.t.Sized h.n)(x:Blk):(h.new x).t.Sized (h.new x).n:=Tr.sized_push x a
theorem put_ok{h:Hp}(a:h.t.Sized h.n)(b:Nat)(x:Blk):(h.put b x).t.Sized (h.put b x).n:=Tr.sized_set b x a
theorem Gr.new{h:Hp}(a:h.t.Sized h.n)(x:Blk):Gr h (h.new x):=
 ⟨a,new_ok a x,Nat.le_succ _,fun b c=>by rw [h.get_new x a,if_neg (by omega)],fun _ _ h=>h⟩
theorem Gr.put{a h:Hp}(g:Gr a h){b:Nat}(j:a.n<=b)(x:Blk):Gr a (h.put b x):=by
 refine⟨g.ok0,put_ok g.ok b x,g.n,fun i c=>?_,fun i d f=>?_⟩
 . rw [Hp.get_put,if_neg (fun e=>by omega)];exact g.get i c
 . have:=g.lo i d f
   show i<=dU b h.lo
   unfold dU
   cases zO b h.lo<;>simp<;>omega
theorem gJ{h:Hp}(a:h.t.Sized h.n){b:Nat}{x:Blk}(e:h.get b=some x):b<h.n:=(a b).1 (by show(h.get b).isSome=true;rw [e];rfl)
theorem Gr.at{h a:Hp}(g:Gr h a){b:Nat}{x:Blk}(e:h.get b=some x):a.get b=some x:=by rw [g.get b (gJ g.ok0 e)];exact e
theorem bD{h:Hp}(a:h.t.Sized h.n){b o n:Nat}{l:List Value}(e:h.load b o n=some l):b<h.n:=by
 unfold Hp.load at e
 split at e
 next c=>exact gJ a c
 next=>cases e
theorem Gr.load{h a:Hp}(g:Gr h a){b o n:Nat}{l:List Value}(e:h.load b o n=some l):a.load b o n=some l:=by
 have:=g.get b (bD g.ok0 e)
 unfold Hp.load at e⊢
 rw [this];exact e
theorem Gr.hlo{h a:Hp}(g:Gr {h with lo:=h.n} a):zO h.n a.lo=true:=Xf (g.lo h.n (Xg _) (Xg _))

def Row(h:Hp)(b:Nat)(l:List Value)(md:Nat):Prop:= ∃t el,h.get b=some (.cells t l.length el md)/\t.Sized l.length/\ ∀i:Nat,t.get i=l[i]?
theorem Row.gr{h d:Hp}(g:Gr h d){b:Nat}{l:List Value}{md:Nat}(r:Row h b l md):Row d b l md:=by
 obtain⟨t,el,a,b,c⟩:=r;exact⟨t,el,g.at a,b,c⟩
theorem Row.lt{h:Hp}(c:h.t.Sized h.n){b:Nat}{l:List Value}{md:Nat}(r:Row h b l md):b<h.n:=by
 obtain⟨t,el,a,_,_⟩:=r;exact gJ c a
theorem xy{α:Type}{t:Tr α}{l:List α}(a: ∀i:Nat,t.get i=l[i]?): ∀(n o:Nat),o+n<=l.length->t.slice o n=some ((l.drop o).take n)
 |0,o,_=>by simp [Tr.slice]
 | n+1,o,h=>by
   simp only [Tr.slice]
   have:l[o]? =some l[o]:=List.getElem?_eq_getElem (by omega)
   rw [a o,this,xy a n (o+1) (by omega)]
   simp only []
   congr 1
   rw [show List.drop o l=l[o]::List.drop (o+1) l from Xn (by omega)]
   rfl
theorem Row.load{h:Hp}{b:Nat}{l:List Value}{md:Nat}(r:Row h b l md){o n:Nat}(d:o+n<=l.length):h.load b o n=some ((l.drop o).take n):=by
 obtain⟨t,el,a,_,c⟩:=r
 unfold Hp.load
 rw [a]
 simp only []
 rw [Xf d]
 exact xy c n o d
theorem Row.load1{h:Hp}{b:Nat}{l:List Value}{md:Nat}(r:Row h b l md){o:Nat}{v:Value}(a:l[o]? =some v):h.load b o 1=some [v]:=by
 have hlt:=(List.getElem?_eq_some_iff.1 a).1
 rw [r.load (by omega)]
 congr 1
 rw [Xn hlt]
 have:=(List.getElem?_eq_some_iff.1 a).2
 simp [this]
theorem oe{h:Hp}(a:h.t.Sized h.n)(l:List Value)(el md:Nat):Row (h.new (.cells (Tr.ofList l) l.length el md)) h.n l md:=
 ⟨Tr.ofList l,el,by rw [h.get_new _ a,if_pos rfl],Tr.sized_ofList l,fun i=>Tr.get_ofList l i⟩
def lay(l:List Value)(o:Nat)(vs:List Value):List Value:=l.take o++vs++l.drop (o+vs.length)
theorem nT{l:List Value}{o:Nat}{vs:List Value}(h:o+vs.length<=l.length):(lay l o vs).length=l.length:=by simp [lay];omega
theorem js{l:List Value}{o:Nat}{vs:List Value}(h:o+vs.length<=l.length)(i:Nat):(lay l o vs)[i]? =if o<=i/\i<o+vs.length then vs[i-o]? else l[i]? :=by
 unfold lay
 by_cases a:i<o
 . rw [Xm,Xh (by simp;omega),List.getElem?_take,if_pos a,if_neg (by omega)]
 . by_cases b:i<o+vs.length
   . rw [Xm,Xa (by simp;omega),Xh (by simp;omega),if_pos (by omega)]
     congr 1
     simp;omega
   . rw [Xm,Xa (by simp;omega),Xa (by simp;omega),if_neg (by omega),List.getElem?_drop]
     congr 1
     simp;omega
theorem Row.store{h:Hp}(m:h.t.Sized h.n){b:Nat}{l:List Value}{md:Nat}(r:Row h b l md)(f:md≠0){o:Nat}{vs:List Value}(e:o+vs.length<=l.length)(g:vs.all jE=true):
 ∃x,h.store b o vs=some (h.put b x)/\Row (h.put b x) b (lay l o vs) md:=by
 obtain⟨t,el,a,d,c⟩:=r
 refine⟨.cells (t.setAll o vs) l.length el md,?_,?_⟩
 . unfold Hp.store
   rw [a]
   simp only []
   have j:Xd md 0=false:=by
    cases k:Xd md 0 with
    |false=>rfl
    |true=>exact absurd (Xe k) f
   rw [Xf e,j,g]
   rfl
 . refine⟨t.setAll o vs,el,?_,?_,fun i=>?_⟩
   . rw [Hp.get_put,if_pos ⟨rfl,by rw [a];rfl⟩,nT e]
   . rw [nT e];exact Tr.sized_setAll o vs d
   . rw [Tr.get_setAll t o vs l.length d e,js e,c]
end Go.Ab

namespace Go.Ab

theorem pop_ext {E:Env} {op:Op} {ρ d:Operand->Value} (e: ∀x∈op.operands.toList,ρ x=d x):pop E ρ op=pop E d op:=by
 cases op
 case build t z=>
  simp only [pop]
  congr 1
  apply Xc
  intro p o
  rw [e p.2 (by simp only [Op.operands];simp;exact⟨p.1,by simpa using o⟩)]
 case makeFunc q a b=>
  cases q<;>(try rfl)
  simp only [pop]
  have s:a.map ρ=a.map d:=by
   apply Xq
   intro x g
   exact e x (by simp only [Op.operands];simp;exact .inl g)
  have u:b.map ρ=b.map d:=by
   apply Xq
   intro x g
   exact e x (by simp only [Op.operands];simp;exact .inr g)
  rw [s,u]
 case slice t x l h m=>
  simp only [pop]
  have g:=e x (by simp [Op.operands])
  have j:l.map ρ=l.map d:=by cases l with|none=>rfl|some y=>simp [e y (by simp [Op.operands])]
  have v:h.map ρ=h.map d:=by cases h with|none=>rfl|some y=>simp [e y (by simp [Op.operands])]
  have w:m.map ρ=m.map d:=by cases m with|none=>rfl|some y=>simp [e y (by simp [Op.operands])]
  rw [g,j,v,w]
 case call c=>
  have k:c.args.toList.map ρ=c.args.toList.map d:=by
   apply Xc
   intro x g
   refine e x ?_
   simp only [Op.operands,Call.operands]
   cases c.callee<;>simp_all
  cases i:c.callee with
  |value f=>simp only [pop,i]
  |invoke r n=>simp only [pop,i]
  | builtin b=>
    cases b<;>simp only [pop,i]<;>(try rfl)
    . cases j:c.args.toList with
      |nil=>cases c.argTypes.toList<;>rfl
      | cons x A=>
        have g:ρ x=d x:=e x (by
         have:x∈c.args.toList:=by rw [j];exact Xl
         simp only [Op.operands,Call.operands,i];simpa using this)
        cases c.argTypes.toList with
        |nil=>rfl
        |cons t B=>simp only [g]
    . rw [k]
    . rw [k]
 all_goals (try rfl)
 all_goals first
  |(unfold Op.operands at e;simp at e;simp only [pop];simp [e];done)
  |(simp only [pop];done)
  |(cases ‹Fn› <;>simp only [pop];done)

theorem rM{E:Env}{op:Op}{h:Hp}{ρ a:Operand->Value}(e: ∀x∈op.operands.toList,ρ x=a x):aop E ρ h op=aop E a h op:=by
 have i:=pop_ext (E:=E) e
 cases op
 case buildSlice t n q=>
  simp only [aop]
  congr 2
  apply Xc
  intro p i
  rw [e p.2 (by simp only [Op.operands];simp;exact⟨p.1,by simpa using i⟩)]
 case makeMap t r=>cases r<;>simp only [aop,i]
 case call c=>
  have k:c.args.toList.map ρ=c.args.toList.map a:=by
   apply Xc
   intro x g
   refine e x ?_
   simp only [Op.operands,Call.operands]
   cases c.callee<;>simp_all
  have g: ∀x∈c.args.toList,ρ x=a x:=by
   intro x g
   refine e x ?_
   simp only [Op.operands,Call.operands]
   cases c.callee<;>simp_all
  cases d:c.callee with
  | value f=>
    have hf:ρ f=a f:=e f (by simp [Op.operands,Call.operands,d])
    simp only [aop,d,k,hf]
  |invoke r n=>simp only [aop,d]
  | builtin b=>
    cases b<;>simp only [aop,d,i]<;>(try rfl)
    all_goals (cases m:c.args.toList with
     |nil=>first|rfl|(cases c.argTypes.toList<;>rfl)
     | cons s o=>
       simp only [m]at g
       have j:=g s Xl
       cases o with
       |nil=>first|rfl|(cases c.argTypes.toList<;>rfl)|simp only [j]
       | cons y u=>
         have l:=g y (List.mem_cons_of_mem _ Xl)
         first|rfl|(simp only [j,l];done)|(simp only [j];done)|(cases c.argTypes.toList with
          |nil=>rfl
          |cons t v=>simp only [j,l]))
 case defer c=>
  have k:c.args.toList.map ρ=c.args.toList.map a:=by
   apply Xc
   intro x g
   refine e x ?_
   simp only [Op.operands,Call.operands]
   cases c.callee<;>simp_all
  cases d:c.callee with
  | value f=>
    have hf:ρ f=a f:=e f (by simp [Op.operands,Call.operands,d])
    simp only [aop,d,k,hf]
  |invoke r n=>simp only [aop,d]
  |builtin b=>simp only [aop,d]
 all_goals first
  |(simp only [aop];done)
  |(simp only [aop,i];done)
  |(unfold Op.operands at e;simp at e;simp only [aop,e];done)
theorem touch_ext{op:Op}{ρ a:Operand->Value}(e: ∀x∈op.operands.toList,ρ x=a x):touch ρ op=touch a op:=by
 cases op
 case call c=>
  simp only [touch]
  cases b:c.args.toList with
  |nil=>rfl
  | cons x d=>
    simp only []
    rw [e x (by simp only [Op.operands,Call.operands];cases c.callee<;>simp_all)]
 all_goals first
  |rfl
  |(unfold Op.operands at e;simp at e;simp only [touch,e];done)
  |(simp only [touch];done)
theorem ry(l:Loc)(op:Op): ∀x∈op.operands.toList,l.evD (tmpsOf op.operands.toList) x=l.ev x:=by
 intro x a
 cases x with
 | tmp t=>
   simp only [Loc.evD]
   rw [(l9 t _).2 ((qg t _).2 a)]
   rfl
 |_=>rfl

def jF(E:Env)(K:Value->Hp->Prop):Option (di×Hp)->Prop
 |some (.val v,c)=>K v c
 |some (.skip,c)=>K (.tuple #[]) c
 | some (.call f a,c)=>fS E f a none c fun x _ d=>match x with
   | .ret v=>K v d
   | .pan _=>False
 | some (.yield b a,c)=>kw E b a c fun x d=>match x with
   | .ret v=>K v d
   | .pan _=>False
 |_=>False
theorem opVal_n{E:Env}{x:Option (di×Hp)}{K:Value->Hp->Prop}:(∃v g,cN E (lim E) x=some (.ret v,g)/\K v g)↔jF E K x:=by
 cases x with
 |none=>exact⟨fun⟨_,_,a,_⟩=>(by cases a),fun h=>h.elim⟩
 | some q=>
   obtain⟨k,l⟩:=q
   cases k with
   |val v=>exact⟨fun⟨_,_,a,b⟩=>(by cases a;exact b),fun h=>⟨_,_,rfl,h⟩⟩
   |skip=>exact⟨fun⟨_,_,a,b⟩=>(by cases a;exact b),fun h=>⟨_,_,rfl,h⟩⟩
   |panic v=>exact⟨fun⟨_,_,a,_⟩=>(by cases a),fun h=>h.elim⟩
   |recov=>exact⟨fun⟨_,_,a,_⟩=>(by cases a),fun h=>h.elim⟩
   |defer d=>exact⟨fun⟨_,_,a,_⟩=>(by cases a),fun h=>h.elim⟩
   | call f e=>
     simp only [jF,cN,fS]
     constructor
     . intro⟨v,g,a,b⟩
       cases i:(lim E).call f e none l with
       |none=>rw [i]at a;cases a
       |some q=>obtain⟨x,m,j⟩:=q;rw [i]at a;cases a;exact⟨_,_,_,rfl,b⟩
     . intro⟨x,m,j,a,b⟩
       rw [a]
       cases x with
       |ret v=>exact⟨_,_,rfl,b⟩
       |pan v=>exact b.elim
   | yield b e=>
     simp only [jF,cN,kw]
     constructor
     . intro⟨v,g,a,c⟩;exact⟨_,_,a,c⟩
     . intro⟨x,j,a,c⟩
       cases x with
       |ret v=>exact⟨_,_,a,c⟩
       |pan v=>exact c.elim
theorem stepD_iff{E:Env}{l:Loc}{c:Bool}{o:Oper}{h:Hp}{K:Value->Hp->Prop}:(∃v d,cJ E (lim E) (l.evD (tmpsOf o.op.operands.toList)) c o h=some (v,d)/\K v d)↔
 (if c=true then jF E (fun v d=>zO h.n d.lo=true/\K v {d with lo:=h.lo}) (aop E l.ev {h with lo:=h.n} o.op)else jF E K (aop E l.ev h o.op)):=by
 have e:=ry l o.op
 unfold cJ
 cases c with
 | false=>
   rw [if_neg (by simp)]
   simp only [cond_false]
   rw [rM e,<-opVal_n]
   constructor
   . intro⟨v,d,a,b⟩
     cases f:cN E (lim E) (aop E l.ev h o.op)with
     |none=>rw [f]at a;cases a
     |some q=>obtain⟨x,i⟩:=q;rw [f]at a;cases x<;>cases a;exact⟨_,_,rfl,b⟩
   . intro⟨v,d,a,b⟩;rw [a];exact⟨_,_,rfl,b⟩
 | true=>
   rw [if_pos rfl]
   simp only [cond_true]
   rw [rM e,<-opVal_n]
   constructor
   . intro⟨v,d,a,b⟩
     cases f:cN E (lim E) (aop E l.ev {h with lo:=h.n} o.op)with
     |none=>rw [f]at a;cases a
     | some q=>
       obtain⟨x,i⟩:=q
       rw [f]at a
       cases x with
       |pan v=>cases a
       | ret v=>
         simp only []at a
         cases g:zO h.n i.lo with
         |false=>rw [g]at a;cases a
         |true=>rw [g]at a;cases a;exact⟨_,_,rfl,g,b⟩
   . intro⟨v,d,a,g,b⟩
     rw [a]
     simp only [g,cond_true]
     exact⟨_,_,rfl,b⟩
theorem AR{op:Op}{ρ a:Operand->Value}{b:Bool}{h c:Hp}(e: ∀x∈op.operands.toList,ρ x=a x):cH ρ b op h c=cH a b op h c:=by
 unfold cH jO;rw [touch_ext e]
theorem run_opsD{E:Env}{cx:Cx}{Q:eG}{k:List Fr}{l:Loc}{h:Hp}{a os:List Oper}{o:Oper}{q i:Nat}{ps:List (Nat×Nat)}{d:List (Nat×Tch)}:Run E (lim E) cx Q (.opsD a q ps (o::os) i d::k) .normal l h↔ ∃b,cm a l.regs o=some b/\
 (if b =true then(if eB E q i o.op=true then
       jF E (fun v c=>zO h.n c.lo=true/\Run E (lim E) cx Q (.opsD a q ps os (i+1) (ii i d (cH l.ev true o.op h h))::k) .normal (l.put o.dst v) {c with lo:=h.lo}) (aop E l.ev {h with lo:=h.n} o.op)
     else jF E (fun v c=>Run E (lim E) cx Q (.opsD a q ps os (i+1) (ii i d (cH l.ev false o.op h c))::k) .normal (l.put o.dst v) c) (aop E l.ev h o.op))
   else Run E (lim E) cx Q (.opsD a q ps os (i+1) d::k) .normal (l.put o.dst (.tuple #[])) h):=by
 rw [wg]
 simp only [AR (ry l o.op),stepD_iff]
 cases eB E q i o.op with
 | true=>
   simp only [if_pos]
   exact zM
 |false=>exact zM
theorem u9{E:Env}{K:Value->Hp->Prop}{f:FuncId}{args:List Value}{h:Hp}{Q:Value->Hp->Prop}(d:Ret E f args h Q)(e: ∀v c,Q v c->K v c):jF E K (some (.call f args,h)):=by
 obtain⟨v,c,a,b⟩:=d
 exact⟨.ret v,none,c,a,e v c b⟩
end Go.Ab

namespace Go.Ab
noncomputable section
abbrev Opt:=Option (Ex×Loc×Hp)

def getK{α:Type}(t:Tr α):Nat->Option α:=Tr.rec (motive:=fun _=>Nat->Option α) (fun _=>none)
 (fun x _ _ a b i=>Nat.rec (some x) (fun n _=>Bool.rec (b (n/2)) (a (n/2)) (Xd (n%2) 0)) i) t
def setK{α:Type}(t:Tr α):Nat->α->Tr α:=Tr.rec (motive:=fun _=>Nat->α->Tr α) (fun _ _=>.nil)
 (fun y l r a b i x=>Nat.rec (.node x l r) (fun n _=>Bool.rec (.node y l (b (n/2) x)) (.node y (a (n/2) x) r) (Xd (n%2) 0)) i) t
def fV(l:Loc)(d:Option Tmp)(v:Value):Loc:=Option.rec l (fun t=>Loc.mk (setK l.regs t v) l.dfs l.rc) d
def evK(l:Loc)(x:Operand):Value:=Operand.rec (motive:=fun _=>Loc->Value) (fun t l=>Option.rec (.tuple #[]) (fun v=>v) (getK l.regs t)) (fun v _=>Bool.rec poison v (cE v))
 (fun g _=>Bool.rec poison (.pointer (some ⟨g,0,none⟩)) (Xo g 16)) (fun f _=>.func (.func f) #[] #[]) x l
def exK(e:Ex):(Loc->Hp->Opt)->(Ex->Loc->Hp->Opt)->Loc->Hp->Opt:=Ex.rec (motive:=fun _=>(Loc->Hp->Opt)->(Ex->Loc->Hp->Opt)->Loc->Hp->Opt)
 (fun b _ l h=>b l h) (fun id _ a l h=>a (.exit id) l h) (fun _ a l h=>a .ret l h) (fun v _ a l h=>a (.pan v) l h) e
def dN(x:Opt)(a:Loc->Hp->Opt)(b:Ex->Loc->Hp->Opt):Opt:=Option.rec none (fun q=>Prod.rec (fun e c=>Prod.rec (fun l h=>exK e a b l h) c) q) x
def asInt:Value->Option (IntKind×Int)
 | .int k n=>some (k,n)
 |_=>none
abbrev BM:=IntKind->Int->IntKind->Int->Option Value->Option Value
def arK(f:IntKind->Int->Int->Option Value):BM:=fun k m a n _=>Bool.rec none (f k m n) (jC k a)
def binI(op:BinOp):BM:=BinOp.rec (motive:=fun _=>BM)
 (add:=arK fun k x y=>some (.int k (ao k (x+y)))) (sub:=arK fun k x y=>some (.int k (ao k (x-y)))) (mul:=arK fun k x y=>some (.int k (ao k (x*y))))
 (quo:=fun _ _ _ _ s=>s) (rem:=fun _ _ _ _ s=>s) (and:=fun _ _ _ _ s=>s) (or:=fun _ _ _ _ s=>s) (xor:=fun _ _ _ _ s=>s) (andNot:=fun _ _ _ _ s=>s) (shl:=fun _ _ _ _ s=>s) (shr:=fun _ _ _ _ s=>s)
 (eql:=arK fun _ x y=>some (.bool (iH x y))) (neq:=arK fun _ x y=>some (.bool (!iH x y))) (lss:=arK fun _ x y=>some (.bool (lu x y))) (leq:=arK fun _ x y=>some (.bool (!lu y x)))
 (gtr:=arK fun _ x y=>some (.bool (lu y x))) (geq:=arK fun _ x y=>some (.bool (!lu x y))) op
def binK(E:Env)(op:BinOp)(t:TypeId)(x y:Operand)(a b:Value):Option Value:=
 Option.rec (bw E op t x y a b) (fun p=>Option.rec (bw E op t x y a b) (fun q=>binI op p.1 p.2 q.1 q.2 (bw E op t x y a b)) (asInt b)) (asInt a)
abbrev OpM:=Env->Rec->Cx->Option Tmp->Loc->Hp->(Loc->Hp->Opt)->(Ex->Loc->Hp->Opt)->Opt
def jD(r:Option Value)(d:Option Tmp)(l:Loc)(h:Hp)(a:Loc->Hp->Opt):Opt:=Option.rec none (fun v=>a (fV l d v) h) r
def retHK(r:Option (Hp×Value))(d:Option Tmp)(l:Loc)(a:Loc->Hp->Opt):Opt:=Option.rec none (fun p=>Prod.rec (fun h v=>a (fV l d v) h) p) r
def rK(r:Option Hp)(d:Option Tmp)(l:Loc)(a:Loc->Hp->Opt):Opt:=Option.rec none (fun h=>a (fV l d (.tuple #[])) h) r
def cS(op:Op):OpM:=fun E R a d l h b c=>dN (dG E R a ⟨d,op,0,"",#[],none⟩ l h) b c
def outK(o:Out):Option Tmp->Loc->Hp->(Loc->Hp->Opt)->(Ex->Loc->Hp->Opt)->Opt:=Out.rec (motive:=fun _=>Option Tmp->Loc->Hp->(Loc->Hp->Opt)->(Ex->Loc->Hp->Opt)->Opt)
 (fun v d l h a _=>a (fV l d v) h) (fun v _ l h _ b=>b (.pan v) l h) o
def resK(r:Option (Out×Option (Value×Bool)×Hp))(d:Option Tmp)(l:Loc)(a:Loc->Hp->Opt)(b:Ex->Loc->Hp->Opt):Opt:=Option.rec none (fun q=>Prod.rec (fun o c=>Prod.rec (fun _ h=>outK o d l h a b) c) q) r
def asFn:Value->Option (FuncId×Array Value×Array Value)
 | .func (.func g) a b=>some (g,a,b)
 |_=>none
def callK(c:Call):OpM:=fun E R e d l h a b=>Callee.rec (motive:=fun _=>Opt)
 (fun f=>Option.rec (cS (.call c) E R e d l h a b) (fun p=>resK (R.call p.1 (p.2.1.toList++c.args.toList.map (evK l)++p.2.2.toList) none h) d l a b) (asFn (evK l f)))
 (fun _ _=>cS (.call c) E R e d l h a b) (fun _=>cS (.call c) E R e d l h a b) c.callee
def opK(op:Op):OpM:=Op.rec (motive:=fun _=>OpM)
 (move:=fun x _ _ _ d l h j _=>j (fV l d (evK l x)) h)
 (assign:=fun x _ _ _ d l h j _=>j (fV l d (evK l x)) h)
 (pick:=fun c a b=>cS (.pick c a b))
 (alloc:=fun e=>cS (.alloc e))
 (box:=fun e v=>cS (.box e v))
 (build:=fun t p=>cS (.build t p))
 (buildSlice:=fun t n p=>cS (.buildSlice t n p))
 (insert:=fun t m k v=>cS (.insert t m k v))
 (load:=fun t a E _ _ d l h j _=>jD (eu E h t (evK l a)) d l h j)
 (store:=fun t a v E _ _ d l h j _=>rK (iz E h t (evK l a) (evK l v)) d l j)
 (ready:=fun g=>cS (.ready g))
 (waits:=fun g=>cS (.waits g))
 (nilCheck:=fun x=>cS (.nilCheck x))
 (binOp:=fun op t x y u E _ _ d l h j _=>jD (binK E op t x y (evK l x) (evK l y)) d l h j)
 (unOp:=fun op t x E _ _ d l h j _=>jD (unP op (evK l x)) d l h j)
 (convert:=fun s t x=>cS (.convert s t x))
 (sliceToArrayPointer:=fun t x=>cS (.sliceToArrayPointer t x))
 (makeInterface:=fun t x=>cS (.makeInterface t x))
 (makeFunc:=fun f a b=>cS (.makeFunc f a b))
 (makeMap:=fun t r=>cS (.makeMap t r))
 (makeChan:=fun t s=>cS (.makeChan t s))
 (makeSlice:=fun t a c=>cS (.makeSlice t a c))
 (slice:=fun t x a b c=>cS (.slice t x a b c))
 (fieldAddr:=fun s x i E _ _ d l h j _=>jD (aw E s (evK l x) i) d l h j)
 (field:=fun t x i E _ _ d l h j _=>jD (aO E t (evK l x) i) d l h j)
 (indexAddr:=fun t x i E _ _ d l h j _=>jD (eg E t (evK l x) (evK l i)) d l h j)
 (index:=fun t x i E _ _ d l h j _=>jD (oq E t (evK l x) (evK l i)) d l h j)
 (lookup:=fun t m k o E _ _ d l h j _=>jD (dr E h t (evK l m) (evK l k) o) d l h j)
 (mapUpdate:=fun t m k v E _ _ d l h j _=>rK (iu E h t (evK l m) (evK l k) (evK l v)) d l j)
 (mapEntry:=fun t m k E _ _ d l h j _=>retHK (jk E h t (evK l m) (evK l k)) d l j)
 (entryStore:=fun t m s v=>cS (.entryStore t m s v))
 (range:=fun t x=>cS (.range t x))
 (next:=fun i s=>cS (.next i s))
 (entry:=fun i=>cS (.entry i))
 (typeAssert:=fun x s t o=>cS (.typeAssert x s t o))
 (extract:=fun t i=>cS (.extract t i))
 (call:=fun c=>callK c)
 (go:=fun c=>cS (.go c))
 (defer:=fun c=>cS (.defer c))
 (panic:=fun x=>cS (.panic x))
 (send:=fun c x=>cS (.send c x))
 (recv:=fun t c o=>cS (.recv t c o))
 (select:=fun q b=>cS (.select q b)) op
def pO(ops:List Oper)(l:Loc)(o:Oper):Option Bool:=Option.rec (some true) (fun _=>cm ops l.regs o) o.guard
def opsK(E:Env)(R:Rec)(cx:Cx)(ops:List Oper)(c:Loc->Hp->Opt)(d:Ex->Loc->Hp->Opt)(os:List Oper):Loc->Hp->Opt:=List.rec (motive:=fun _=>Loc->Hp->Opt) c
 (fun o _ a l h=>Option.rec none (fun b=>Bool.rec (a (fV l o.dst (.tuple #[])) h) (opK o.op E R cx o.dst l h a d) b) (pO ops l o)) os
def pJ(op:Op):Bool:=Op.rec (motive:=fun _=>Bool)
 (move:=fun _=>true) (assign:=fun _=>true) (pick:=fun _ _ _=>false) (alloc:=fun _=>false) (box:=fun _ _=>false) (build:=fun _ _=>false) (buildSlice:=fun _ _ _=>false)
 (insert:=fun _ _ _ _=>false) (load:=fun _ _=>true) (store:=fun _ _ _=>true) (ready:=fun _=>false) (waits:=fun _=>false) (nilCheck:=fun _=>false) (binOp:=fun _ _ _ _ _=>true)
 (unOp:=fun _ _ _=>true) (convert:=fun _ _ _=>false) (sliceToArrayPointer:=fun _ _=>false) (makeInterface:=fun _ _=>false) (makeFunc:=fun _ _ _=>false) (makeMap:=fun _ _=>false)
 (makeChan:=fun _ _=>false) (makeSlice:=fun _ _ _=>false) (slice:=fun _ _ _ _ _=>false) (fieldAddr:=fun _ _ _=>true) (field:=fun _ _ _=>true) (indexAddr:=fun _ _ _=>true) (index:=fun _ _ _=>true)
 (lookup:=fun _ _ _ _=>true) (mapUpdate:=fun _ _ _ _=>true) (mapEntry:=fun _ _ _=>true) (entryStore:=fun _ _ _ _=>false) (range:=fun _ _=>false) (next:=fun _ _=>false) (entry:=fun _=>false)
 (typeAssert:=fun _ _ _ _=>false) (extract:=fun _ _=>false) (call:=fun _=>false) (go:=fun _=>false) (defer:=fun _=>false) (panic:=fun _=>false) (send:=fun _ _=>false) (recv:=fun _ _ _=>false)
 (select:=fun _ _=>false) op
def qk(E:Env)(q i:Nat)(op:Op):Bool:=Bool.rec (Bool.rec false (zO 3 (cls E op)) (Nat.testBit q i)) false (Xd q 0)
def outDK(o:Out):(Value->Hp->Opt)->Hp->Opt:=Out.rec (motive:=fun _=>(Value->Hp->Opt)->Hp->Opt) (fun v k h=>k v h) (fun _ _ _=>none) o
def resDK(r:Option (Out×Option (Value×Bool)×Hp))(k:Value->Hp->Opt):Opt:=Option.rec none (fun q=>Prod.rec (fun o a=>Prod.rec (fun _ h=>outDK o k h) a) q) r
def kx(E:Env)(R:Rec)(a:Bool)(o:Oper)(l:Loc)(h:Hp)(k:Value->Hp->Opt):Opt:=Option.rec none (fun p=>k p.1 p.2) (cJ E R l.ev a o h)
def tK(h:Hp)(k:Value->Hp->Opt)(v:Value)(a:Hp):Opt:=Bool.rec none (k v {a with lo:=h.lo}) (zO h.n a.lo)
def callDK(E:Env)(R:Rec)(a:Bool)(o:Oper)(c:Call)(l:Loc)(h:Hp)(k:Value->Hp->Opt):Opt:=Callee.rec (motive:=fun _=>Opt)
 (fun f=>Option.rec (kx E R a o l h k) (fun p=>Bool.rec (resDK (R.call p.1 (p.2.1.toList++c.args.toList.map (evK l)++p.2.2.toList) none h) k)
   (resDK (R.call p.1 (p.2.1.toList++c.args.toList.map (evK l)++p.2.2.toList) none {h with lo:=h.n}) (tK h k)) a) (asFn (evK l f)))
 (fun _ _=>kx E R a o l h k) (fun _=>kx E R a o l h k) c.callee
def asCall(op:Op):Option Call:=match op with
 | .call c=>some c
 |_=>none
def s8(E:Env)(R:Rec)(a:Bool)(o:Oper)(l:Loc)(h:Hp)(k:Value->Hp->Opt):Opt:=Option.rec (kx E R a o l h k) (fun c=>callDK E R a o c l h k) (asCall o.op)
def tD(l:Loc)(op:Op):Option Tch:=match touch (l.evD (tmpsOf op.operands.toList)) op with
 |none=>none
 |some b=>some (.blk b)
abbrev DM:=Nat->Loc->Hp->List (Nat×Tch)->Opt
def tW (E:Env) (R:Rec) (cx:Cx) (q:Nat) (o:Oper) (b:DM) (i:Nat) (l:Loc) (h:Hp) (c:List (Nat×Tch)):Opt:=
 Bool.rec (s8 E R (qk E q i o.op) o l h fun v a=>b (i+1) (fV l o.dst v) a (ii i c (cH (l.evD (tmpsOf o.op.operands.toList)) (qk E q i o.op) o.op h a)))
  (Bool.rec (opK o.op E R cx o.dst l h (fun d a=>b (i+1) d a (ii i c (tD l o.op))) (fun _ _ _=>none))
    (kx E R true o l h fun v a=>b (i+1) (fV l o.dst v) a (ii i c (tD l o.op))) (qk E q i o.op)) (pJ o.op)
def nR(E:Env)(R:Rec)(cx:Cx)(ops:List Oper)(q:Nat)(a:DM)(os:List Oper):DM:=List.rec (motive:=fun _=>DM) a
 (fun o _ c i l h d=>Option.rec none (fun b=>Bool.rec (c (i+1) (fV l o.dst (.tuple #[])) h d) (tW E R cx q o c i l h d) b) (pO ops l o)) os
def drawKo(E:Env)(R:Rec)(cx:Cx)(ops:List Oper)(l:Loc)(h:Hp)(a:Loc->Hp->Opt):Opt:=
 Option.rec none (fun p=>nR E R cx ops p.1 (fun _ l h b=>Bool.rec none (a l h) (eh b p.2)) ops 0 l h []) (plan E ops)
def drawK(E:Env)(R:Rec)(cx:Cx)(ops:List Oper)(l:Loc)(h:Hp)(a:Loc->Hp->Opt):Opt:=drawKo E R cx (eA ops) l h a

abbrev CodeM:=Cx->Code->Loc->Hp->(Loc->Hp->Opt)->(Ex->Loc->Hp->Opt)->Opt
def asBool:Value->Option Bool
 | .bool b=>some b
 |_=>none
def blkK(e:Ex):Nat->(Loc->Hp->Opt)->(Ex->Loc->Hp->Opt)->Loc->Hp->Opt:=Ex.rec (motive:=fun _=>Nat->(Loc->Hp->Opt)->(Ex->Loc->Hp->Opt)->Loc->Hp->Opt)
 (fun _ b _ l h=>b l h) (fun i id b a l h=>Bool.rec (a (.exit i) l h) (b l h) (Xd i id)) (fun _ _ a l h=>a .ret l h) (fun v _ _ a l h=>a (.pan v) l h) e
def mQ(E:Env)(R:Rec)(M:CodeM)(cx:Cx)(c:Code):Loc->Hp->(Loc->Hp->Opt)->(Ex->Loc->Hp->Opt)->Opt:=Code.rec (motive:=fun _=>Loc->Hp->(Loc->Hp->Opt)->(Ex->Loc->Hp->Opt)->Opt)
 (skip:=fun l h a _=>a l h)
 (region:=fun _ g k l h a d=>Bool.rec (opsK E R cx g.toList a d g.toList l h) (drawK E R cx g.toList l h a) k)
 (seq:=fun _ _ i j l h a d=>i l h (fun l h=>j l h a d) d)
 (cond:=fun c _ _ i j l h a d=>Option.rec none (fun t=>Bool.rec (j l h a d) (i l h a d) t) (asBool (evK l c)))
 (block:=fun id _ m l h a d=>m l h a (fun e l h=>blkK e id a d l h))
 (loop:=fun b m l h a d=>m l h (fun l h=>M cx (.loop b) l h a d) d)
 (rangeFunc:=fun f p o n _ _ l h a d=>dN (iv R cx (evK l f) p o n l h) a d)
 (exit:=fun id l h _ d=>d (.exit id) l h)
 (scope:=fun _ m l h a d=>m l h a d)
 (label:=fun _ l h a _=>a l h)
 (goto:=fun _ _ _ _ _=>none)
 (ret:=fun l h _ d=>d .ret l h)
 (refuse:=fun _ _ _ _ _=>none) c
abbrev nE:=Option (Out×Option (Value×Bool)×Hp)
def sq(E:Env)(R:Rec)(b:Func)(l:Loc)(c:Hp):nE:=match bR R l.dfs none c with
 | some (none,a)=>match aV E l.regs a b.results.toList with
   |none=>none
   |some d=>some (.ret (ac d),l.rc,a)
 |_=>none
def doneK(E:Env)(R:Rec)(a:Func)(l:Loc)(h:Hp):nE:=List.rec (motive:=fun _=>nE)
 (Option.rec none (fun b=>some (.ret (ac b),l.rc,h)) (aV E l.regs h a.results.toList)) (fun _ _ _=>sq E R a l h) l.dfs
def slowPan(E:Env)(R:Rec)(b:Func)(v:Value)(l:Loc)(c:Hp):nE:=match bR R l.dfs (some v) c with
 |none=>none
 |some (some v,a)=>some (.pan v,l.rc,a)
 | some (none,a)=>match aV E l.regs a b.results.toList with
   |none=>none
   |some d=>some (.ret (ac d),l.rc,a)
def exLeave(e:Ex):Env->Rec->Func->Loc->Hp->nE:=Ex.rec (motive:=fun _=>Env->Rec->Func->Loc->Hp->nE) doneK (fun _ _ _ _ _ _=>none) doneK (fun v E R a l h=>slowPan E R a v l h) e
def leaveK(E:Env)(R:Rec)(a:Func)(r:Opt):nE:=Option.rec none (fun q=>Prod.rec (fun e b=>Prod.rec (fun l h=>exLeave e E R a l h) b) q) r
def tB(E:Env)(R:Rec)(f:FuncId)(args:List Value)(b:Option (Value×Bool))(h:Hp)(a:Func)(body:Code):nE:=
 Bool.rec none (leaveK E R a (R.code ⟨f,a.ntmps,none⟩ body ⟨(Tr.blank (.tuple #[]) a.ntmps a.ntmps).setAll 0 args,[],b⟩ h)) (zO args.length a.ntmps)
def callBK(E:Env)(R:Rec)(f:FuncId)(args:List Value)(c:Option (Value×Bool))(h:Hp):nE:=
 Option.rec none (fun b=>Option.rec none (fun a=>tB E R f args c h b a) b.body) (E.fn f)
def sZ(E:Env)(R:Rec)(f:FuncId)(args:List Value)(a:Option (Value×Bool))(h:Hp):nE:=
 Option.rec (callBK E R f args a h) (fun v=>Option.rec (some (.ret v,none,h)) (fun _=>none) a) (E.orc f args)
structure RK where
 call:FuncId->List Value->Option (Value×Bool)->Hp->nE
 code:CodeM
def RK.rec'(K:RK):Rec:=⟨K.call,fun a c l h=>K.code a c l h (fun l h=>some (.normal,l,h)) (fun e l h=>some (e,l,h))⟩
def botK:RK:=⟨fun _ _ _ _=>none,fun _ _ _ _ _ _=>none⟩
def nextRK(E:Env)(K:RK):RK:=⟨fun f a b h=>sZ E K.rec' f a b h,fun d c l h e g=>mQ E K.rec' K.code d c l h e g⟩
def runK(E:Env)(n:Nat):RK:=Nat.rec botK (fun _ K=>nextRK E K) n
def envK(a:Tr Func)(b:Tr TypeInfo)(c:List Nat):Env:={fn:=fun f=>getK a f,ty:=fun t=>getK b t,eqok:=fun t=>memb t c}
end
end Go.Ab

namespace Go.Ab
noncomputable section
theorem getK_eq{α:Type}(t:Tr α)(i:Nat):getK t i=t.get i:=rfl
theorem setK_eq{α:Type}(t:Tr α)(i:Nat)(x:α):setK t i x=t.set i x:=rfl

theorem mE(l:Loc)(d:Option Tmp)(v:Value):fV l d v=l.put d v:=by
 cases d with
 |none=>rfl
 |some t=>show Loc.mk (setK l.regs t v) l.dfs l.rc=_;rw [setK_eq];rfl
theorem fq(l:Loc):evK l=l.ev:=by
 funext x
 cases x with
 | tmp t=>
   show Option.rec (motive:=fun _=>Value) _ _ (getK l.regs t)=_
   rw [getK_eq]
   simp only [Loc.ev]
   cases l.regs.get t<;>rfl
 |const v=>simp only [Loc.ev];show Bool.rec (motive:=fun _=>Value) poison v (cE v)=_;cases cE v<;>rfl
 |global g=>simp only [Loc.ev];show Bool.rec (motive:=fun _=>Value) poison _ (Xo g 16)=_;cases Xo g 16<;>rfl
 |func f=>rfl

theorem bind2_id(x:Opt):dN x (fun l h=>some (.normal,l,h)) (fun e l h=>some (e,l,h))=x:=by
 cases x with
 |none=>rfl
 |some q=>obtain⟨e,l,h⟩:=q;cases e<;>rfl
theorem qt(x:Opt)(c:Loc->Hp->Opt)(d:Ex->Loc->Hp->Opt)(f:Loc->Hp->Opt)(a:Ex->Loc->Hp->Opt)(b: ∀e l h,e≠ .normal->d e l h=a e l h):
 dN x (fun l h=>dN (c l h) f a) d=dN (match x with
  |some (.normal,l,h)=>c l h
  |r=>r) f a:=by
 cases x with
 |none=>rfl
 | some q=>
   obtain⟨e,l,h⟩:=q
   cases e with
   |normal=>rfl
   |exit i=>exact b _ _ _ (by simp)
   |ret=>exact b _ _ _ (by simp)
   |pan v=>exact b _ _ _ (by simp)

theorem binK_eq(E:Env)(op:BinOp)(t:TypeId)(x y:Operand)(a b:Value):binK E op t x y a b=bw E op t x y a b:=by
 cases a<;>(try rfl)
 cases b<;>(try rfl)
 rename_i k m c n
 cases op<;>(try rfl)
 all_goals (show Bool.rec (motive:=fun _=>Option Value) none _ (jC k c)=(bif jC k c then _ else none);cases jC k c<;>rfl)

theorem retK_eq(r:Option Value)(o:Oper)(l:Loc)(h:Hp)(E:Env)(R:Rec)(a:Loc->Hp->Opt)(b:Ex->Loc->Hp->Opt):jD r o.dst l h a=dN (mN o l (cN E R (ce h r))) a b:=by
 cases r with
 |none=>rfl
 |some v=>show a (fV l o.dst v) h=a (l.put o.dst v) h;rw [mE]
theorem retHK_eq(r:Option (Hp×Value))(o:Oper)(l:Loc)(E:Env)(R:Rec)(a:Loc->Hp->Opt)(b:Ex->Loc->Hp->Opt):retHK r o.dst l a=dN (mN o l (cN E R (cP r))) a b:=by
 cases r with
 |none=>rfl
 |some p=>obtain⟨h,v⟩:=p;show a (fV l o.dst v) h=a (l.put o.dst v) h;rw [mE]
theorem retUK_eq(r:Option Hp)(o:Oper)(l:Loc)(E:Env)(R:Rec)(a:Loc->Hp->Opt)(b:Ex->Loc->Hp->Opt):rK r o.dst l a=dN (mN o l (cN E R (fg r))) a b:=by
 cases r with
 |none=>rfl
 |some h=>show a (fV l o.dst (.tuple #[])) h=a (l.put o.dst (.tuple #[])) h;rw [mE]
theorem resK_eq(R:Rec)(g:FuncId)(args:List Value)(o:Oper)(l:Loc)(h:Hp)(E:Env)(a:Loc->Hp->Opt)(b:Ex->Loc->Hp->Opt):
 resK (R.call g args none h) o.dst l a b=dN (mN o l (cN E R (some (.call g args,h)))) a b:=by
 simp only [cN]
 cases R.call g args none h with
 |none=>rfl
 | some q=>
   obtain⟨x,d,c⟩:=q
   cases x with
   |ret v=>show a (fV l o.dst v) c=a (l.put o.dst v) c;rw [mE]
   |pan v=>rfl
theorem lz{E:Env}{R:Rec}{cx:Cx}{o:Oper}{l:Loc}{h:Hp}{x:Option (di×Hp)}(b:aop E l.ev h o.op=x)(c: ∀a,x≠some (.recov,a))(e: ∀d a,x≠some (.defer d,a)):dG E R cx o l h=mN o l (cN E R x):=by
 unfold dG
 rw [b]
 split
 . exact absurd rfl (c _)
 . exact absurd rfl (e _ _)
 . rfl
theorem sW{h:Hp}{r:Option Value}:(∀a,ce h r≠some (.recov,a))/\ ∀d a,ce h r≠some (.defer d,a):=by cases r<;>exact⟨by intros;simp [ce],by intros;simp [ce]⟩
theorem su{r:Option (Hp×Value)}:(∀a,cP r≠some (.recov,a))/\ ∀d a,cP r≠some (.defer d,a):=by cases r<;>exact⟨by intros;simp [cP],by intros;simp [cP]⟩
theorem sQ{r:Option Hp}:(∀a,fg r≠some (.recov,a))/\ ∀d a,fg r≠some (.defer d,a):=by cases r<;>exact⟨by intros;simp [fg],by intros;simp [fg]⟩
theorem opK_eq(E:Env)(R:Rec)(cx:Cx)(o:Oper)(l:Loc)(h:Hp)(q:Loc->Hp->Opt)(s:Ex->Loc->Hp->Opt):opK o.op E R cx o.dst l h q s=dN (dG E R cx o l h) q s:=by
 have w: ∀r,aop E l.ev h o.op=ce h r->jD r o.dst l h q=dN (dG E R cx o l h) q s:=fun r A=>by rw [lz A sW.1 sW.2];exact retK_eq r o l h E R q s
 have B: ∀r,aop E l.ev h o.op=cP r->retHK r o.dst l q=dN (dG E R cx o l h) q s:=fun r A=>by rw [lz A su.1 su.2];exact retHK_eq r o l E R q s
 have C: ∀r,aop E l.ev h o.op=fg r->rK r o.dst l q=dN (dG E R cx o l h) q s:=fun r A=>by rw [lz A sQ.1 sQ.2];exact retUK_eq r o l E R q s
 obtain⟨j,op,D,pos,z,guard⟩:=o
 simp only []at w B C⊢
 cases op
 case move x=>
  have:=w (some (l.ev x)) rfl
  rw [<-this]
  show q (fV l j (evK l x)) h=q (fV l j (l.ev x)) h
  rw [fq]
 case assign x=>
  have:=w (some (l.ev x)) rfl
  rw [<-this]
  show q (fV l j (evK l x)) h=q (fV l j (l.ev x)) h
  rw [fq]
 case load t a=>rw [<-w _ rfl];show jD (eu E h t (evK l a)) j l h q=_;rw [fq]
 case store t a v=>rw [<-C _ rfl];show rK (iz E h t (evK l a) (evK l v)) j l q=_;rw [fq]
 case binOp b t x y u=>rw [<-w (bw E b t x y (l.ev x) (l.ev y)) rfl];show jD (binK E b t x y (evK l x) (evK l y)) j l h q=_;rw [fq,binK_eq]
 case unOp b t x=>rw [<-w (unP b (l.ev x)) rfl];show jD (unP b (evK l x)) j l h q=_;rw [fq]
 case fieldAddr t x i=>rw [<-w (aw E t (l.ev x) i) rfl];show jD (aw E t (evK l x) i) j l h q=_;rw [fq]
 case field t x i=>rw [<-w (aO E t (l.ev x) i) rfl];show jD (aO E t (evK l x) i) j l h q=_;rw [fq]
 case indexAddr t x i=>rw [<-w (eg E t (l.ev x) (l.ev i)) rfl];show jD (eg E t (evK l x) (evK l i)) j l h q=_;rw [fq]
 case index t x i=>rw [<-w (oq E t (l.ev x) (l.ev i)) rfl];show jD (oq E t (evK l x) (evK l i)) j l h q=_;rw [fq]
 case lookup t m k b=>rw [<-w _ rfl];show jD (dr E h t (evK l m) (evK l k) b) j l h q=_;rw [fq]
 case mapUpdate t m k v=>rw [<-C _ rfl];show rK (iu E h t (evK l m) (evK l k) (evK l v)) j l q=_;rw [fq]
 case mapEntry t m k=>rw [<-B _ rfl];show retHK (jk E h t (evK l m) (evK l k)) j l q=_;rw [fq]
 case call c=>
  show callK c E R cx j l h q s=_
  unfold callK
  cases F:c.callee with
  |invoke r n=>rfl
  |builtin b=>rfl
  | value f=>
    show Option.rec (motive:=fun _=>Opt) (cS (.call c) E R cx j l h q s) _ (asFn (evK l f))=_
    rw [fq]
    cases hf:asFn (l.ev f)with
    |none=>rfl
    | some p=>
      obtain⟨g,a,b⟩:=p
      have B:l.ev f=.func (.func g) a b:=by
       unfold asFn at hf
       split at hf
       . rename_i G;cases hf;exact G
       . cases hf
      have A:aop E l.ev h (.call c)=some (.call g (a.toList++c.args.toList.map l.ev++b.toList),h):=by simp only [aop,F,B,target]
      rw [lz (o:=⟨j,.call c,D,pos,z,guard⟩) A (by intro H e;cases e) (by intro d H e;cases e)]
      exact resK_eq R g _ ⟨j,.call c,D,pos,z,guard⟩ l h E q s
 all_goals rfl

theorem v8(ops:List Oper)(l:Loc)(o:Oper):pO ops l o=cm ops l.regs o:=by
 unfold pO
 cases a:o.guard with
 |none=>unfold cm;rw [a]
 |some q=>rfl
theorem opsK_eq(E:Env)(R:Rec)(cx:Cx)(ops:List Oper)(c:Loc->Hp->Opt)(a:Ex->Loc->Hp->Opt): ∀(os:List Oper) (l:Loc) (h:Hp),opsK E R cx ops c a os l h=dN (iU E R cx ops os l h) c a
 | [],l,h=>rfl
 | o ::os,l,h=>by
   have d:=opsK_eq E R cx ops c a os
   show Option.rec (motive:=fun _=>Opt) none (fun b=>Bool.rec (opsK E R cx ops c a os (fV l o.dst (.tuple #[])) h) (opK o.op E R cx o.dst l h (opsK E R cx ops c a os) a) b) (pO ops l o)=_
   rw [v8]
   simp only [iU]
   cases cm ops l.regs o with
   |none=>rfl
   | some b=>
     cases b with
     |false=>show opsK E R cx ops c a os (fV l o.dst (.tuple #[])) h=_;rw [d,mE]
     | true=>
       show opK o.op E R cx o.dst l h (opsK E R cx ops c a os) a=_
       rw [opK_eq,show opsK E R cx ops c a os=fun l h=>dN (iU E R cx ops os l h) c a from funext fun l=>funext fun h=>d l h]
       rw [qt _ _ _ _ _ (fun _ _ _ _=>rfl)]
       simp only []
       cases dG E R cx o l h with
       |none=>rfl
       |some q=>obtain⟨e,f,g⟩:=q;cases e<;>rfl

end
end Go.Ab

namespace Go.Ab
noncomputable section

theorem uV(E:Env)(R:Rec)(l:Loc)(a:Bool)(o:Oper)(h:Hp):cJ E R (l.evD (tmpsOf o.op.operands.toList)) a o h=cJ E R l.ev a o h:=by
 unfold cJ
 rw [rM (ry l o.op),rM (ry l o.op)]
theorem fast_step{E:Env}{R:Rec}{cx:Cx}{o:Oper}{l:Loc}{h:Hp}(hf:pJ o.op=true){K:Value->Hp->Opt}:
 dN (dG E R cx o l h) (fun l' a=>none) (fun _ _ _=>none)=none/\
 ∀ c:Loc->Hp->Opt,dN (dG E R cx o l h) c (fun _ _ _=>none)=(match cJ E R l.ev false o h with
   |none=>none
   |some (v,a)=>c (l.put o.dst v) a):=by
 have e: ∀x,aop E l.ev h o.op=x->((∃f r,x=ce f r)\/(∃r,x=cP r)\/ ∃r,x=fg r)-> ∀c:Loc->Hp->Opt,dN (dG E R cx o l h) c (fun _ _ _=>none)=(match cJ E R l.ev false o h with
  |none=>none
  |some (v,a)=>c (l.put o.dst v) a):=by
  intro x i j c
  have k:(∀a,x≠some (.recov,a))/\ ∀d a,x≠some (.defer d,a):=by
   rcases j with⟨f,r,rfl⟩|⟨r,rfl⟩|⟨r,rfl⟩
   . exact sW
   . exact su
   . exact sQ
  rw [lz i k.1 k.2]
  simp only [cJ,cond_false,i]
  rcases j with⟨f,r,rfl⟩|⟨r,rfl⟩|⟨r,rfl⟩<;>cases r<;>rfl
 have b:(∃f r,aop E l.ev h o.op=ce f r)\/(∃r,aop E l.ev h o.op=cP r)\/ ∃r,aop E l.ev h o.op=fg r:=by
  obtain⟨m,op,n,pos,g,guard⟩:=o
  simp only []at hf⊢
  cases op<;>(try (cases hf;done))
  all_goals first
   |exact .inl ⟨h,some (l.ev _),rfl⟩
   |exact .inl ⟨h,_,rfl⟩
   |exact .inr (.inl ⟨_,rfl⟩)
   |exact .inr (.inr ⟨_,rfl⟩)
 refine⟨?_,e _ rfl b⟩
 rw [e _ rfl b]
 cases cJ E R l.ev false o h<;>rfl
theorem sf(E:Env)(q i:Nat)(op:Op):qk E q i op=eB E q i op:=by
 unfold qk eB
 cases a:Xd q 0 with
 | true=>
   have:q=0:=Xe a
   subst this
   simp
 |false=>cases Nat.testBit q i<;>rfl
theorem elseDK_eq (E:Env) (R:Rec) (d:Bool) (o:Oper) (l:Loc) (h:Hp) (k:Value->Hp->Opt):s8 E R d o l h k=kx E R d o l h k:=by
 unfold s8
 cases e:asCall o.op with
 |none=>rfl
 | some c=>
   show callDK E R d o c l h k=_
   have t:o.op=.call c:=by
    unfold asCall at e
    split at e
    . rename_i i;cases e;exact i
    . cases e
   unfold callDK
   cases j:c.callee with
   |invoke r n=>rfl
   |builtin b=>rfl
   | value f =>
     show Option.rec (motive:=fun _=>Opt) (kx E R d o l h k) _ (asFn (evK l f))=_
     rw [fq]
     cases hf:asFn (l.ev f)with
     |none=>rfl
     | some p=>
       obtain⟨g,a,b⟩:=p
       have u:l.ev f=.func (.func g) a b:=by
        unfold asFn at hf
        split at hf
        . rename_i i;cases hf;exact i
        . cases hf
       have s: ∀h,aop E l.ev h o.op=some (.call g (a.toList++c.args.toList.map l.ev++b.toList),h):=by intro h;rw [t];simp only [aop,j,u,target]
       unfold kx cJ
       cases d with
       | false=>
         simp only [cond_false,s,cN]
         show resDK (R.call g (a.toList++c.args.toList.map l.ev++b.toList) none h) k=_
         cases R.call g (a.toList++c.args.toList.map l.ev++b.toList) none h with
         |none=>rfl
         |some q=>obtain⟨x,w,m⟩:=q;cases x<;>rfl
       | true=>
         simp only [cond_true,s,cN]
         show resDK (R.call g (a.toList++c.args.toList.map l.ev++b.toList) none {h with lo:=h.n}) (tK h k)=_
         cases R.call g (a.toList++c.args.toList.map l.ev++b.toList) none {h with lo:=h.n}with
         |none=>rfl
         | some q=>
           obtain⟨x,w,m⟩:=q
           cases x with
           |pan v=>rfl
           | ret v=>
             show tK h k v m=_
             simp only [tK]
             cases zO h.n m.lo<;>rfl
theorem yV{op:Op}(h:pJ op=true):dK op=false:=by
 cases op<;>first|rfl|exact absurd h (by simp [pJ])
theorem wG (E:Env) (R:Rec) (cx:Cx) (ops:List Oper) (q:Nat) (K:Loc->Hp->List (Nat×Tch)->Opt): ∀(os:List Oper) (i:Nat) (l:Loc) (h:Hp) (a:List (Nat×Tch)),
 nR E R cx ops q (fun _ l h a=>K l h a) os i l h a=(match dZ E R ops q os i l h a with
  |none=>none
  |some (l',c,e)=>K l' c e)
 | [],i,l,h,a=>rfl
 | o :: os,i,l,h,a=>by
   have j:=wG E R cx ops q K os
   show Option.rec (motive:=fun _=>Opt) none (fun b=>Bool.rec (nR E R cx ops q (fun _ l h a=>K l h a) os (i+1) (fV l o.dst (.tuple #[])) h a) (tW E R cx q o (nR E R cx ops q (fun _ l h a=>K l h a) os) i l h a) b) (pO ops l o)=_
   rw [v8]
   simp only [dZ]
   cases cm ops l.regs o with
   |none=>rfl
   | some b=>
     cases b with
     |false=>show nR E R cx ops q (fun _ l h a=>K l h a) os (i+1) (fV l o.dst (.tuple #[])) h a=_;rw [j,mE]
     | true=>
       show tW E R cx q o (nR E R cx ops q (fun _ l h a=>K l h a) os) i l h a=_
       simp only []
       have d: ∀g,eB E q i o.op=g->kx E R g o l h (fun v c=>nR E R cx ops q (fun _ l h a=>K l h a) os (i+1) (fV l o.dst v) c (ii i a (cH (l.evD (tmpsOf o.op.operands.toList)) g o.op h c)))=
        (match(match cJ E R (l.evD (tmpsOf o.op.operands.toList)) (eB E q i o.op) o h with
          |none=>none
          |some (v,c)=>dZ E R ops q os (i+1) (l.put o.dst v) c (ii i a (cH (l.evD (tmpsOf o.op.operands.toList)) (eB E q i o.op) o.op h c)))with
          |none=>none
          |some (l',c,e)=>K l' c e):=by
        intro g f
        rw [f,uV]
        unfold kx
        cases cJ E R l.ev g o h with
        |none=>rfl
        |some p=>obtain⟨v,c⟩:=p;show nR E R cx ops q _ os (i+1) (fV l o.dst v) c _=_;rw [j,mE]
       unfold tW
       cases hf:pJ o.op with
       | false=>
         show s8 E R (qk E q i o.op) o l h _=_
         rw [elseDK_eq,sf]
         exact d _ rfl
       | true=>
         have m: ∀b (h c:Hp),cH (l.evD (tmpsOf o.op.operands.toList)) b o.op h c=tD l o.op:=by
          intro b h c
          have k:eS o.op=false:=by cases n:o.op<;>first|rfl|(rw [n]at hf;simp [pJ]at hf)
          unfold cH tD jO
          rw [yV hf,k];rfl
         simp only [m]at d⊢
         cases f:qk E q i o.op with
         | true=>
           rw [sf]at f
           exact d true f
         | false=>
           rw [sf]at f
           show opK o.op E R cx o.dst l h _ _=_
           rw [opK_eq,(fast_step (R:=R) hf (K:=fun _ _=>none)).2,uV,f]
           cases cJ E R l.ev false o h with
           |none=>rfl
           |some p=>obtain⟨v,c⟩:=p;simp only [];rw [j]
theorem codeK_eq(E:Env)(R:Rec)(M:CodeM)(D: ∀cx c l h d g,M cx c l h d g=dN (R.code cx c l h) d g)(cx:Cx): ∀(c:Code) (l:Loc) (h:Hp) (d:Loc->Hp->Opt) (g:Ex->Loc->Hp->Opt),
 mQ E R M cx c l h d g=dN (aD E R cx c l h) d g:=by
 intro c
 induction c with
 |skip=>intro l h d g;rfl
 |label n=>intro l h d g;rfl
 | region id j s=>
   intro l h d g
   cases s with
   |false=>exact opsK_eq E R cx j.toList d g j.toList l h
   | true=>
     show drawK E R cx j.toList l h d=_
     unfold drawK drawKo
     simp only [aD,cond_true]
     generalize eA j.toList=r
     cases plan E r with
     |none=>rfl
     | some p=>
       obtain⟨q,u⟩:=p
       show nR E R cx r q (fun _ l h B=>Bool.rec none (d l h) (eh B u)) r 0 l h []=_
       rw [wG E R cx r q (fun l h B=>Bool.rec none (d l h) (eh B u))]
       simp only []
       cases dZ E R r q r 0 l h []with
       |none=>rfl
       | some x=>
         obtain⟨a,b,c⟩:=x
         simp only []
         cases eh c u<;>rfl
 | seq a b k o=>
   intro l h d g
   show mQ E R M cx a l h (fun l h=>mQ E R M cx b l h d g) g=_
   rw [k,show(fun l h=>mQ E R M cx b l h d g)=fun l h=>dN (aD E R cx b l h) d g from funext fun l=>funext fun h=>o l h d g]
   rw [qt _ _ _ _ _ (fun _ _ _ _=>rfl)]
   simp only [aD]
   cases aD E R cx a l h with
   |none=>rfl
   |some q=>obtain⟨e,z,A⟩:=q;cases e<;>rfl
 | cond c a b k o=>
   intro l h d g
   show Option.rec (motive:=fun _=>Opt) none (fun t=>Bool.rec (mQ E R M cx b l h d g) (mQ E R M cx a l h d g) t) (asBool (evK l c))=_
   rw [fq,k,o]
   simp only [aD]
   cases l.ev c<;>(try rfl)
   rename_i t
   cases t<;>rfl
 | block id b w=>
   intro l h d g
   show mQ E R M cx b l h d (fun e l h=>blkK e id d g l h)=_
   rw [w]
   simp only [aD]
   cases aD E R cx b l h with
   |none=>rfl
   | some q=>
     obtain⟨e,z,A⟩:=q
     cases e with
     |normal=>rfl
     |ret=>rfl
     |pan v=>rfl
     | exit i=>
       show Bool.rec (motive:=fun _=>Opt) (g (.exit i) z A) (d z A) (Xd i id)=_
       simp only []
       cases Xd i id<;>rfl
 | loop b w=>
   intro l h d g
   show mQ E R M cx b l h (fun l h=>M cx (.loop b) l h d g) g=_
   rw [w,show(fun l h=>M cx (.loop b) l h d g)=fun l h=>dN (R.code cx (.loop b) l h) d g from funext fun l=>funext fun h=>D cx (.loop b) l h d g]
   rw [qt _ _ _ _ _ (fun _ _ _ _=>rfl)]
   simp only [aD]
   cases aD E R cx b l h with
   |none=>rfl
   |some q=>obtain⟨e,z,A⟩:=q;cases e<;>rfl
 | rangeFunc f u C y _ _=>
   intro l h d g
   show dN (iv R cx (evK l f) u C y l h) d g=_
   rw [fq];rfl
 |exit id=>intro l h d g;rfl
 |scope b w=>intro l h d g;exact w l h d g
 |goto n=>intro l h d g;rfl
 |ret=>intro l h d g;rfl
 |refuse m=>intro l h d g;rfl

theorem yD(E:Env)(R:Rec)(a:Func)(l:Loc)(h:Hp):doneK E R a l h=sq E R a l h:=by
 unfold doneK sq
 cases b:l.dfs with
 |cons d c=>rfl
 | nil=>
   simp only [bR]
   cases aV E l.regs h a.results.toList<;>rfl
theorem callBK_eq(E:Env)(R:Rec)(f:FuncId)(args:List Value)(c:Option (Value×Bool))(h:Hp):callBK E R f args c h=jK E R f args c h:=by
 unfold callBK jK
 cases E.fn f with
 |none=>rfl
 | some b=>
   show Option.rec (motive:=fun _=>nE) none (fun a=>tB E R f args c h b a) b.body=_
   simp only []
   cases b.body with
   |none=>rfl
   | some a=>
     show tB E R f args c h b a=_
     unfold tB
     simp only []
     cases zO args.length b.ntmps with
     |false=>rfl
     | true=>
       show leaveK E R b _=_
       simp only [cond_true]
       cases R.code ⟨f,b.ntmps,none⟩ a ⟨(Tr.blank (.tuple #[]) b.ntmps b.ntmps).setAll 0 args,[],c⟩ h with
       |none=>rfl
       | some q=>
         obtain⟨e,l,d⟩:=q
         cases e with
         |exit i=>rfl
         |pan v=>rfl
         |normal=>exact yD E R b l d
         |ret=>exact yD E R b l d

theorem callSK_eq(E:Env)(R:Rec)(f:FuncId)(args:List Value)(a:Option (Value×Bool))(h:Hp):sZ E R f args a h=iG E R f args a h:=by
 unfold sZ iG
 cases E.orc f args with
 |none=>exact callBK_eq E R f args a h
 |some v=>cases a<;>rfl

theorem xf(E:Env): ∀n,(runK E n).rec'=run E n/\ ∀cx c l h b d,(runK E n).code cx c l h b d=dN ((run E n).code cx c l h) b d
 |0=>⟨rfl,fun _ _ _ _ _ _=>rfl⟩
 | n+1=>by
   obtain⟨i,k⟩:=xf E n
   have j: ∀cx c l h b d,(runK E (n+1)).code cx c l h b d=dN ((run E (n+1)).code cx c l h) b d:=by
    intro cx c l h b d
    show mQ E (runK E n).rec' (runK E n).code cx c l h b d=dN (aD E (run E n) cx c l h) b d
    rw [i]
    exact codeK_eq E (run E n) (runK E n).code k cx c l h b d
   refine⟨?_,j⟩
   show Rec.mk (fun f a g h=>sZ E (runK E n).rec' f a g h) (fun cx c l h=>(runK E (n+1)).code cx c l h (fun l h=>some (.normal,l,h)) (fun e l h=>some (e,l,h)))=next E (run E n)
   rw [i]
   unfold next
   congr 1
   . funext f a g h;exact callSK_eq E (run E n) f a g h
   . funext cx c l h;rw [j,bind2_id];rfl
theorem runK_call(E:Env)(n:Nat)(f:FuncId)(args:List Value)(a:Option (Value×Bool))(h:Hp):(runK E n).call f args a h=(run E n).call f args a h:=by
 rw [<-(xf E n).1];rfl

theorem envK_eq(a:Tr Func)(b:Tr TypeInfo)(c:List Nat):envK a b c=envOf a b c:=rfl

end
end Go.Ab

namespace Go.Ab
section
variable{E:Env}{ρ:Operand->Value}{h:Hp}
theorem o_move{x:Operand}:aop E ρ h (.move x)=some (.val (ρ x),h):=rfl
theorem o_assign{x:Operand}:aop E ρ h (.assign x)=some (.val (ρ x),h):=rfl
theorem o_load{t:TypeId}{a:Operand}:aop E ρ h (.load t a)=ce h (eu E h t (ρ a)):=rfl
theorem o_store{t:TypeId}{a x:Operand}:aop E ρ h (.store t a x)=fg (iz E h t (ρ a) (ρ x)):=rfl
theorem o_binOp{op:BinOp}{t u:TypeId}{x y:Operand}:aop E ρ h (.binOp op t x y u)=ce h (bw E op t x y (ρ x) (ρ y)):=rfl
theorem o_unOp{op:UnOp}{t:TypeId}{x:Operand}:aop E ρ h (.unOp op t x)=ce h (unP op (ρ x)):=rfl
theorem z7{f:FuncId}{a b:Array Operand}:aop E ρ h (.makeFunc (.func f) a b)=some (.val (.func (.func f) (a.map ρ) (b.map ρ)),h):=rfl
theorem o_slice{t:TypeId}{x:Operand}{l u m:Option Operand}:aop E ρ h (.slice t x l u m)=ce h (fi E t (ρ x) (l.map ρ) (u.map ρ) (m.map ρ)):=rfl
theorem zg{s:TypeId}{x:Operand}{i:Nat}:aop E ρ h (.fieldAddr s x i)=ce h (aw E s (ρ x) i):=rfl
theorem o_field{s:TypeId}{x:Operand}{i:Nat}:aop E ρ h (.field s x i)=ce h (aO E s (ρ x) i):=rfl
theorem yR{t:TypeId}{x i:Operand}:aop E ρ h (.indexAddr t x i)=ce h (eg E t (ρ x) (ρ i)):=rfl
theorem o_index{t:TypeId}{x i:Operand}:aop E ρ h (.index t x i)=ce h (oq E t (ρ x) (ρ i)):=rfl
theorem o_extract{t:Operand}{i:Nat}:aop E ρ h (.extract t i)=ce h (match ρ t with| .tuple vs=>vs.toList[i]? |_=>none):=rfl
theorem o_build{t:TypeId}{ps:Array (Nat×Operand)}:aop E ρ h (.build t ps)=ce h (m9 E t (ps.toList.map fun p=>(p.1,ρ p.2))):=rfl
theorem xj{t:TypeId}{n:Nat}{ps:Array (Nat×Operand)}:aop E ρ h (.buildSlice t n ps)=cP (ju E h t n (ps.toList.map fun p=>(p.1,ρ p.2))):=rfl
theorem zk{t:TypeId}{l c:Operand}:aop E ρ h (.makeSlice t l c)=cP (jd E h t (ρ l) (ρ c)):=rfl
theorem xN{x:Operand}{s t:TypeId}{a:Bool}:aop E ρ h (.typeAssert x s t a)=ce h (n8 E (ρ x) t a):=rfl
theorem o_convert{s t:TypeId}{x:Operand}:aop E ρ h (.convert s t x)=cP (jc E h s t (ρ x)):=rfl
theorem o_lookup{t:TypeId}{m k:Operand}{a:Bool}:aop E ρ h (.lookup t m k a)=ce h (dr E h t (ρ m) (ρ k) a):=rfl
theorem zm{t:TypeId}{m k v:Operand}:aop E ρ h (.mapUpdate t m k v)=fg (iu E h t (ρ m) (ρ k) (ρ v)):=rfl
theorem Ay{t:TypeId}{m k:Operand}:aop E ρ h (.mapEntry t m k)=cP (jk E h t (ρ m) (ρ k)):=rfl
theorem wR{t:TypeId}{m s v:Operand}:aop E ρ h (.entryStore t m s v)=fg (kM h (ρ m) (ρ s) (ρ v)):=rfl
theorem o_callv{f:Operand}{as:Array Operand}{ts:Array TypeId}:aop E ρ h (.call ⟨.value f,as,ts⟩)=match target (ρ f) (as.toList.map ρ)with|none=>none|some x=>some (x,h):=rfl
theorem o_max{x y:Operand}{ts:Array TypeId}:aop E ρ h (.call ⟨.builtin .max,#[x,y],ts⟩)=ce h (gc true (ρ x) [ρ y]):=rfl
theorem o_min{x y:Operand}{ts:Array TypeId}:aop E ρ h (.call ⟨.builtin .min,#[x,y],ts⟩)=ce h (gc false (ρ x) [ρ y]):=rfl
theorem o_append{s x:Operand}{ts:Array TypeId}:aop E ρ h (.call ⟨.builtin .append,#[s,x],ts⟩)=cP (c6 E h ts.toList (ρ s) (ρ x)):=rfl
theorem o_copy{s x:Operand}{ts:Array TypeId}:aop E ρ h (.call ⟨.builtin .copy,#[s,x],ts⟩)=cP (copyV E h ts.toList (ρ s) (ρ x)):=rfl
end
theorem AF{h:Hp}{v:Value}:ce h (some v)=some (.val v,h):=rfl
theorem Au{h:Hp}{v:Value}:cP (some (h,v))=some (.val v,h):=rfl
theorem Aa{h:Hp}:fg (some h)=some (.skip,h):=rfl
theorem fC(k:IntKind):jC k k=true:=by rw [fN];simp
theorem b_add{E:Env}{t:TypeId}{x y:Operand}{k:IntKind}{m n:Int}:bw E .add t x y (.int k m) (.int k n)=some (.int k (ao k (m+n))):=by simp [bw,fC,hU]
theorem b_sub{E:Env}{t:TypeId}{x y:Operand}{k:IntKind}{m n:Int}:bw E .sub t x y (.int k m) (.int k n)=some (.int k (ao k (m-n))):=by simp [bw,fC,hU]
theorem b_mul{E:Env}{t:TypeId}{x y:Operand}{k:IntKind}{m n:Int}:bw E .mul t x y (.int k m) (.int k n)=some (.int k (ao k (m*n))):=by simp [bw,fC,hU]
theorem mD(m n:Int):iH m n=decide (m=n):=by rw [gP];by_cases h:m=n<;>simp [h]
theorem b_eql{E:Env}{t:TypeId}{x y:Operand}{k:IntKind}{m n:Int}:bw E .eql t x y (.int k m) (.int k n)=some (.bool (decide (m=n))):=by simp [bw,fC,hU,mD]
theorem b_neq{E:Env}{t:TypeId}{x y:Operand}{k:IntKind}{m n:Int}:bw E .neq t x y (.int k m) (.int k n)=some (.bool (!decide (m=n))):=by simp [bw,fC,hU,mD]
theorem b_lss{E:Env}{t:TypeId}{x y:Operand}{k:IntKind}{m n:Int}:bw E .lss t x y (.int k m) (.int k n)=some (.bool (decide (m<n))):=by simp [bw,fC,hU,iq]
theorem b_leq{E:Env}{t:TypeId}{x y:Operand}{k:IntKind}{m n:Int}:bw E .leq t x y (.int k m) (.int k n)=some (.bool (decide (m<=n))):=by
 simp only [bw,fC,hU,iq,cond_true]
 by_cases a:m<=n
 . rw [decide_eq_true a,decide_eq_false (by omega)];rfl
 . rw [decide_eq_false a,decide_eq_true (by omega)];rfl
theorem b_gtr{E:Env}{t:TypeId}{x y:Operand}{k:IntKind}{m n:Int}:bw E .gtr t x y (.int k m) (.int k n)=some (.bool (decide (n<m))):=by simp [bw,fC,hU,iq]
theorem b_geq{E:Env}{t:TypeId}{x y:Operand}{k:IntKind}{m n:Int}:bw E .geq t x y (.int k m) (.int k n)=some (.bool (decide (n<=m))):=by
 simp only [bw,fC,hU,iq,cond_true]
 by_cases a:n<=m
 . rw [decide_eq_true a,decide_eq_false (by omega)];rfl
 . rw [decide_eq_false a,decide_eq_true (by omega)];rfl
theorem lj{E:Env}{t:TypeId}{x y:Operand}{k:IntKind}{m n:Int}(h:n≠0):bw E .quo t x y (.int k m) (.int k n)=some (.int k (ao k (m.tdiv n))):=by
 simp [bw,fC,hU,mD,h]
theorem mT{E:Env}{t:TypeId}{x y:Operand}{k:IntKind}{m n:Int}(h:n≠0):bw E .rem t x y (.int k m) (.int k n)=some (.int k (m.tmod n)):=by
 simp [bw,fC,hU,mD,h]
theorem mm_max{k k':IntKind}{a b:Int}:gc true (.int k a) [.int k' b]=some (.int k (max a b)):=by
 simp only [gc,iq,cond_true]
 by_cases h:a<b
 . rw [decide_eq_true h];simp only [cond_true];rw [Int.max_eq_right (by omega)]
 . rw [decide_eq_false h];simp only [cond_false];rw [Int.max_eq_left (by omega)]
theorem mm_min{k k':IntKind}{a b:Int}:gc false (.int k a) [.int k' b]=some (.int k (min a b)):=by
 simp only [gc,iq,cond_false]
 by_cases h:b<a
 . rw [decide_eq_true h];simp only [cond_true];rw [Int.min_eq_right (by omega)]
 . rw [decide_eq_false h];simp only [cond_false];rw [Int.min_eq_left (by omega)]
theorem wrap64{n:Int}(a: -9223372036854775808<=n)(b:n<9223372036854775808):ao .i64 n=n:=by
 unfold ao
 cases n with
 | ofNat m=>
   have:Xo m (hf .i64)=true:=by rw [Nat.blt_eq];simp only [hf];have c:(m:Int)<9223372036854775808:=b;omega
   simp only [this,cond_true]
 | negSucc m=>
   have:Xo m (hf .i64)=true:=by rw [Nat.blt_eq];simp only [hf];have: -9223372036854775808<=Int.negSucc m:=a;omega
   simp only [sgn,this,cond_true]
theorem rZ{α:Type}{a:α}{P:α->Prop}:(∃b,some a=some b/\P b)↔P a:=⟨fun⟨b,c,d⟩=>by cases c;exact d,fun h=>⟨a,rfl,h⟩⟩
theorem yH{a:Bool}{P:Bool->Prop}:(∃t,Value.bool a=Value.bool t/\P t)↔P a:=⟨fun⟨b,c,d⟩=>by cases c;exact d,fun h=>⟨a,rfl,h⟩⟩
end Go.Ab
namespace Go.Ab
theorem aP{v:Value}{l:List Value}:bQ (v::l) 0=v:=rfl
theorem bM{v:Value}{l:List Value}{i:Nat}:bQ (v::l) (i+1)=bQ l i:=rfl
end Go.Ab
namespace Go.Ab
section
variable{l:Loc}
theorem c_int{k:IntKind}{n:Int}:l.ev (.const (.int k n))=.int k n:=rfl
theorem c_bool{b:Bool}:l.ev (.const (.bool b))=.bool b:=rfl
theorem c_string{s:ByteArray}:l.ev (.const (.string s))=.string s:=rfl
theorem c_nilp:l.ev (.const (.pointer none))=.pointer none:=rfl
theorem c_nils:l.ev (.const (.slice none 0 0))=.slice none 0 0:=rfl
theorem c_nilm:l.ev (.const (.map none))=.map none:=rfl
theorem c_nilf:l.ev (.const .nilFunc)=.nilFunc:=rfl
theorem c_nili:l.ev (.const .nilIface)=.nilIface:=rfl
end
end Go.Ab
namespace Go.Ab
def one1:Option (List Value)->Option Value
 |some [v]=>some v
 |_=>none
theorem one1_some{v:Value}:one1 (some [v])=some v:=rfl
theorem zU{E:Env}{h:Hp}{t:TypeId}{b o:Nat}{s:Option Nat}(a:E.agg t=some false):eu E h t (.pointer (some ⟨b,o,s⟩))=one1 (h.load b o 1):=by
 simp only [eu,a]
 unfold one1
 rfl
end Go.Ab
namespace Go.Ab
def gv(a:Bool):Option Value->Option Bool
 |some (.bool b)=>some (bif b then a else !a)
 |some (.tuple _)=>some false
 |_=>none
noncomputable def gj(a:Bool)(b:Tr Value):Option Oper->Option Bool
 |none=>some false
 | some o=>match o.dst with
   |none=>some false
   |some d=>gv a (b.get d)
theorem AI{a:List Oper}{c:Tr Value}{d:Option Tmp}{op:Op}{t:TypeId}{p:String}{e:Array Edge}{j:Nat}{b:Bool}:cm a c ⟨d,op,t,p,e,some (j,b)⟩=gj b c (a[j]?):=by
 simp only [cm,gj]
 cases a[j]? with
 |none=>rfl
 | some o=>
   simp only []
   cases o.dst with
   |none=>rfl
   | some d=>
     simp only [gv]
     cases c.get d with
     |none=>rfl
     |some v=>cases v<;>rfl
theorem gj_some{a:Bool}{b:Tr Value}{d:Tmp}{op:Op}{t:TypeId}{p:String}{c:Array Edge}{g:Option (Nat×Bool)}:gj a b (some ⟨some d,op,t,p,c,g⟩)=gv a (b.get d):=rfl
theorem gv_true{b:Bool}:gv true (some (.bool b))=some b:=by cases b<;>rfl
theorem gv_false{b:Bool}:gv false (some (.bool b))=some (!b):=by cases b<;>rfl
theorem gv_tuple{a:Bool}{x:Array Value}:gv a (some (.tuple x))=some false:=rfl
theorem u_not{b:Bool}:unP .not (.bool b)=some (.bool (!b)):=rfl
theorem target_fn{g:FuncId}{a b:Array Value}{args:List Value}:target (.func (.func g) a b) args=some (.call g (a.toList++args++b.toList)):=rfl
def aK(E:Env)(f:FuncId)(args:List Value)(h:Hp)(v:Value):Prop:=Ret E f args h fun a b=>a=v/\Gr h b
end Go.Ab
namespace Go.Ab
theorem bW{E:Env}{cx:Cx}{Q:eG}{k:List Fr}{l:Loc}{h:Hp}{b:Code}:Run E (lim E) cx Q (.code (.loop b)::k) .normal l h↔Run E (lim E) cx Q (.code b:: .code (.loop b)::k) .normal l h:=by
 rw [<-run_seq]
 simp only [Run]
 have:aD E (lim E) cx (.loop b) l h=aD E (lim E) cx (.seq b (.loop b)) l h:=by
  simp only [aD]
  cases aD E (lim E) cx b l h with
  |none=>rfl
  | some q=>
    obtain⟨e,a,c⟩:=q
    cases e with
    |normal=>show(lim E).code cx (.loop b) a c=_;rw [uA];rfl
    |exit i=>rfl
    |ret=>rfl
    |pan v=>rfl
 rw [this]
def lenK(r:Option (di×Hp))(h:Hp):Option Value->Option (di×Hp)
 |some v=>some (.val v,h)
 |none=>r
theorem o_lenK{E:Env}{ρ:Operand->Value}{h:Hp}{x:Operand}{t:TypeId}:aop E ρ h (.call ⟨.builtin .len,#[x],#[t]⟩)=lenK (match ρ x with
 | .map (some r)=>match h.get r with
   |some (.map a _)=>match E.und t with
    |some (.map _ _)=>some (.val (.int .i64 (.ofNat a.length)),h)
    |_=>none
   |_=>none
 |_=>none) h (ny E t (ρ x)):=by
 simp only [aop,pop]
 cases ny E t (ρ x)with
 |some v=>rfl
 | none=>
   simp only [lenK]
   cases ρ x<;>rfl
theorem natOf_nn{i:Int}(h:0<=i):ig i=some i.toNat:=by
 cases i with
 |ofNat n=>rfl
 |negSucc n=>exact absurd h (by simp)
theorem idxP_in{k:IntKind}{i:Int}{n:Nat}(h0:0<=i)(a:i<n):gY (.int k i) n=some i.toNat:=by
 simp only [gY,natOf_nn h0]
 have:Xo i.toNat n=true:=by rw [Nat.blt_eq];omega
 rw [this];rfl
theorem jQ{k:IntKind}{i n:Nat}(a:i<n):gY (.int k (i:Int)) n=some i:=by
 rw [idxP_in (Int.natCast_nonneg i) (by omega)];simp
theorem ia_slice{E:Env}{t e:TypeId}{k:Nat}{a:Addr}{n c:Nat}{v:Value}(b:E.und t=some (.slice e))(d:E.sz e=some k):eg E t (.slice (some a) n c) v=(gY v n).map fun i=>.pointer (some (eW a (i*k))):=by
 simp only [eg,b,d]
 cases gY v n<;>rfl
end Go.Ab
namespace Go.Ab
theorem an{E:Env}{cx:Cx}{o:Oper}{l:Loc}{K:Ex->Loc->Hp->Prop}{h:Hp}{f:FuncId}{args:List Value}{v:Value}(b:aK E f args h v)(c: ∀a,Gr h a->K .normal (l.put o.dst v) a):eZ E cx o l K (some (.call f args,h)):=
 step_ret b fun d a ⟨e,g⟩=>by rw [e];exact c a g
theorem tg{E:Env}{K:Value->Hp->Prop}{f:FuncId}{args:List Value}{h:Hp}{v:Value}(b:aK E f args h v)(c: ∀a,Gr h a->K v a):jF E K (some (.call f args,h)):=
 u9 b fun d a ⟨e,g⟩=>by rw [e];exact c a g
theorem aK.of{E:Env}{f:FuncId}{args:List Value}{h:Hp}{v:Value}(a:Ret E f args h fun v' b=>v'=v/\Gr h b):aK E f args h v:=a
end Go.Ab
namespace Go.Ab
section
variable(E:Env)(cx:Cx)(Q:eG)
def GStep(a:List Oper)(o:Oper)(os:List Oper)(k:List Fr)(l:Loc)(h:Hp):Option Bool->Prop
 |some true=>eZ E cx o l (fun e b c=>Run E (lim E) cx Q (.ops a os::k) e b c) (aop E l.ev h o.op)
 |some false=>Run E (lim E) cx Q (.ops a os::k) .normal (l.put o.dst (.tuple #[])) h
 |none=>False
def CStep(a b:Code)(k:List Fr)(l:Loc)(h:Hp):Value->Prop
 | .bool true=>Run E (lim E) cx Q (.code a::k) .normal l h
 | .bool false=>Run E (lim E) cx Q (.code b::k) .normal l h
 |_=>False
def tT(a:List Oper)(q:Nat)(ps:List (Nat×Nat))(o:Oper)(os:List Oper)(i:Nat)(c:List (Nat×Tch))(k:List Fr)(l:Loc)(h:Hp):Option Bool->Bool->Prop
 |some true,false=>jF E (fun v b=>Run E (lim E) cx Q (.opsD a q ps os (i+1) (ii i c (cH l.ev false o.op h b))::k) .normal (l.put o.dst v) b) (aop E l.ev h o.op)
 |some true,true=>jF E (fun v b=>zO h.n b.lo=true/\Run E (lim E) cx Q (.opsD a q ps os (i+1) (ii i c (cH l.ev true o.op h h))::k) .normal (l.put o.dst v) {b with lo:=h.lo}) (aop E l.ev {h with lo:=h.n} o.op)
 |some false,_=>Run E (lim E) cx Q (.opsD a q ps os (i+1) c::k) .normal (l.put o.dst (.tuple #[])) h
 |none,_=>False
end
section
variable{E:Env}{cx:Cx}{Q:eG}{k:List Fr}{l:Loc}{h:Hp}
theorem r_ops{a os:List Oper}{o:Oper}:Run E (lim E) cx Q (.ops a (o::os)::k) .normal l h↔GStep E cx Q a o os k l h (cm a l.regs o):=by
 rw [xH]
 cases cm a l.regs o with
 |none=>exact⟨fun⟨_,e,_⟩=>(by cases e),fun h=>h.elim⟩
 | some b=>
   rw [rZ]
   cases b with
   |true=>rw [if_pos rfl];exact then_step
   |false=>rw [if_neg (by simp)];exact zM
theorem g_true{a os:List Oper}{o:Oper}:GStep E cx Q a o os k l h (some true)↔eZ E cx o l (fun e l' b=>Run E (lim E) cx Q (.ops a os::k) e l' b) (aop E l.ev h o.op):=zM
theorem g_false{a os:List Oper}{o:Oper}:GStep E cx Q a o os k l h (some false)↔Run E (lim E) cx Q (.ops a os::k) .normal (l.put o.dst (.tuple #[])) h:=zM
theorem r_cond{c:Operand}{a b:Code}:Run E (lim E) cx Q (.code (.cond c a b)::k) .normal l h↔CStep E cx Q a b k l h (l.ev c):=by
 rw [run_cond]
 cases l.ev c<;>(try (exact⟨fun⟨_,e,_⟩=>(by cases e),fun h=>h.elim⟩))
 rename_i t
 rw [yH]
 cases t with
 |true=>rw [if_pos rfl];exact zM
 |false=>rw [if_neg (by simp)];exact zM
theorem c_true{a b:Code}:CStep E cx Q a b k l h (.bool true)↔Run E (lim E) cx Q (.code a::k) .normal l h:=zM
theorem c_false{a b:Code}:CStep E cx Q a b k l h (.bool false)↔Run E (lim E) cx Q (.code b::k) .normal l h:=zM
theorem r_opsD{a os:List Oper}{o:Oper}{q i:Nat}{ps:List (Nat×Nat)}{c:List (Nat×Tch)}:Run E (lim E) cx Q (.opsD a q ps (o::os) i c::k) .normal l h↔tT E cx Q a q ps o os i c k l h (cm a l.regs o) (eB E q i o.op):=by
 rw [run_opsD]
 cases cm a l.regs o with
 |none=>exact⟨fun⟨_,e,_⟩=>(by cases e),fun h=>h.elim⟩
 | some b=>
   rw [rZ]
   cases b with
   | true=>
     rw [if_pos rfl]
     cases eB E q i o.op with
     |true=>rw [if_pos rfl];exact zM
     |false=>rw [if_neg (by simp)];exact zM
   |false=>rw [if_neg (by simp)];exact zM
theorem d_skip{a os:List Oper}{o:Oper}{q i:Nat}{ps:List (Nat×Nat)}{c:List (Nat×Tch)}{b:Bool}:tT E cx Q a q ps o os i c k l h (some false) b↔Run E (lim E) cx Q (.opsD a q ps os (i+1) c::k) .normal (l.put o.dst (.tuple #[])) h:=zM
theorem qs{i:Nat}{a:List (Nat×Tch)}:ii i a none=a:=rfl
theorem aZ{i:Nat}{b:Tch}{a:List (Nat×Tch)}:ii i a (some b)=(i,b)::a:=rfl
theorem bC{a:List (Nat×Tch)}:eh a []=true:=rfl
theorem guard_no{a:List Oper}{b:Tr Value}{d:Option Tmp}{op:Op}{t:TypeId}{p:String}{c:Array Edge}:cm a b ⟨d,op,t,p,c,none⟩=some true:=rfl
end
end Go.Ab
namespace Go.Ab
theorem b_eqlB{E:Env}{t:TypeId}{x y:Operand}{a b:Bool}(c:E.und t=some .bool):bw E .eql t x y (.bool a) (.bool b)=some (.bool (bif a then b else !b)):=by
 simp [bw,fo,dP,c]
theorem b_neqB{E:Env}{t:TypeId}{x y:Operand}{a b:Bool}(c:E.und t=some .bool):bw E .neq t x y (.bool a) (.bool b)=some (.bool (!(bif a then b else !b))):=by
 simp [bw,fo,dP,c]
theorem same_bool{d:Bool}:(bif d then d else !d)=true:=by cases d<;>rfl
end Go.Ab
namespace Go.Ab
noncomputable def boxR(h:Hp)(t:TypeId):Value->Option (di×Hp)
 | .chan _=>none
 |v=>some (.val (ptrTo h.n),h.new (.cells (Tr.ofList (ah v)) (ah v).length t 1))
theorem o_boxR{E:Env}{ρ:Operand->Value}{h:Hp}{t:TypeId}{x:Operand}:aop E ρ h (.box t x)=boxR h t (ρ x):=by
 simp only [aop];cases ρ x<;>rfl
noncomputable def allocR(h:Hp)(t:TypeId):Option (List Value)->Option (di×Hp)
 |none=>none
 |some z=>some (.val (ptrTo h.n),h.new (.cells (Tr.ofList z) z.length t 1))
theorem o_allocR{E:Env}{ρ:Operand->Value}{h:Hp}{t:TypeId}:aop E ρ h (.alloc t)=allocR h t (E.zero t):=by
 simp only [aop];cases E.zero t<;>rfl
section
variable{E:Env}{cx:Cx}{o:Oper}{l:Loc}{K:Ex->Loc->Hp->Prop}{h:Hp}
theorem aC{ops:List Oper}(h:(ops.any ra&&ops.all (pD ops.length))=false):eA ops=ops:=by unfold eA;rw [h];rfl
theorem av{Q:eG}{k:List Fr}{id:Nat}{ops:Array Oper}{q:Nat}{ps:List (Nat×Nat)}{os:List Oper}(a:eA ops.toList=os)(b:plan E os=some (q,ps))(c:Run E (lim E) cx Q (.opsD os q ps os 0 []::k) .normal l h):Run E (lim E) cx Q (.code (.region id ops true)::k) .normal l h:=(run_draw a b).2 c
end
theorem quiet_ok{h a:Hp}(g:Gr {h with lo:=h.n} a):zO h.n a.lo=true:=g.hlo
theorem gr_lo{h a:Hp}(g:Gr {h with lo:=h.n} a):Gr h {a with lo:=h.lo}:=
 ⟨g.ok0,g.ok,g.n,g.get,fun _ _ h=>h⟩
end Go.Ab
namespace Go.Ab
theorem hush_s{E:Env}{q i:Nat}{op:Op}:eB E q i op=(decide (q/2 ^i%2=1)&&decide (3<=cls E op)):=by
 unfold eB
 rw [Nat.testBit_eq_decide_div_mod_eq,dL]
end Go.Ab
namespace Go.Ab
theorem yK{E:Env}{K:Value->Hp->Prop}{f:FuncId}{args:List Value}{h:Hp}{v:Value}(b:aK E f args {h with lo:=h.n} v)(c: ∀a,Gr h a->K v a):
 jF E (fun v a=>zO h.n a.lo=true/\K v {a with lo:=h.lo}) (some (.call f args,{h with lo:=h.n})):=
 tg b fun a g=>⟨quiet_ok g,c _ (gr_lo g)⟩
end Go.Ab
namespace Go.Ab
section
variable(E:Env)(cx:Cx)(Q:eG)(a:List Oper)(q:Nat)(ps:List (Nat×Nat))(o:Oper)(os:List Oper)(i:Nat)(k:List Fr)(l:Loc)
def DN(c:Hp->List (Nat×Tch))(x:Option (di×Hp)):Prop:=jF E (fun v b=>Run E (lim E) cx Q (.opsD a q ps os (i+1) (c b)::k) .normal (l.put o.dst v) b) x
def DQ(h:Hp)(c:List (Nat×Tch))(x:Option (di×Hp)):Prop:=jF E (fun v b=>zO h.n b.lo=true/\Run E (lim E) cx Q (.opsD a q ps os (i+1) c::k) .normal (l.put o.dst v) {b with lo:=h.lo}) x
end
section
variable{E:Env}{cx:Cx}{Q:eG}{a:List Oper}{q:Nat}{ps:List (Nat×Nat)}{o:Oper}{os:List Oper}{i:Nat}{k:List Fr}{l:Loc}{h:Hp}{tr:List (Nat×Tch)}{tf:Hp->List (Nat×Tch)}
theorem dn_loud:tT E cx Q a q ps o os i tr k l h (some true) false↔DN E cx Q a q ps o os i k l (fun b=>ii i tr (cH l.ev false o.op h b)) (aop E l.ev h o.op):=zM
theorem dn_quiet:tT E cx Q a q ps o os i tr k l h (some true) true↔DQ E cx Q a q ps o os i k l h (ii i tr (cH l.ev true o.op h h)) (aop E l.ev {h with lo:=h.n} o.op):=zM
theorem dn_val{v:Value}{b:Hp}:DN E cx Q a q ps o os i k l tf (some (.val v,b))↔Run E (lim E) cx Q (.opsD a q ps os (i+1) (tf b)::k) .normal (l.put o.dst v) b:=zM
theorem dn_skip{b:Hp}:DN E cx Q a q ps o os i k l tf (some (.skip,b))↔Run E (lim E) cx Q (.opsD a q ps os (i+1) (tf b)::k) .normal (l.put o.dst (.tuple #[])) b:=zM
theorem dp{f:FuncId}{args:List Value}{P:Value->Hp->Prop}(c:Ret E f args h P)(d: ∀v b,P v b->Run E (lim E) cx Q (.opsD a q ps os (i+1) (tf b)::k) .normal (l.put o.dst v) b):DN E cx Q a q ps o os i k l tf (some (.call f args,h)):=u9 c d
theorem cw{f:FuncId}{args:List Value}{v:Value}(c:aK E f args h v)(d: ∀b,Gr h b->Run E (lim E) cx Q (.opsD a q ps os (i+1) (tf b)::k) .normal (l.put o.dst v) b):DN E cx Q a q ps o os i k l tf (some (.call f args,h)):=tg c d
theorem uQ{f:FuncId}{args:List Value}{v:Value}(c:aK E f args {h with lo:=h.n} v)(d: ∀b,Gr h b->Run E (lim E) cx Q (.opsD a q ps os (i+1) tr::k) .normal (l.put o.dst v) b):DQ E cx Q a q ps o os i k l h tr (some (.call f args,{h with lo:=h.n})):=yK c d
end
end Go.Ab
namespace Go.Ab
theorem ag{b:Nat}:ptrTo b=.pointer (some ⟨b,0,none⟩):=rfl
end Go.Ab

namespace Go.Ab
open Go.ChangeShapes Go.WideShapes Go.RowKit

theorem len2{α:Type}{l:List α}(h:l.length=2): ∃a b,l=[a,b]:=by
 match l,h with
 | [a,b],_=>exact⟨a,b,rfl⟩
section
variable{H:Type}{enc:TypeId×Value->H}{P:Program}
theorem qE(f:laidOutB P=true){W g:World}(i:Below W.heap.size W g): ∀{ts:List TypeId} {vs:List Value} {c:List (DataW H)} {ps:List MemPlace},(ts.all fun t=>P.readableRec t&&decide (t<P.types.size))=true->
 DataW.TrodAll enc P W 0 (fun _=>true) true ts vs c ps->(∀x∈ps,x.block<W.heap.size)->DataW.TrodAll enc P g 0 (fun b=>decide (b<W.heap.size)) true ts vs c ps
 | [],vs,c,ps,_,h,_=>by
   obtain⟨rfl,rfl,rfl⟩:=trodAll_nil h
   exact rfl
 | t::ts,vs,c,ps,a,h,hlt=>by
   obtain⟨v,j,d,k,p,q,rfl,rfl,rfl,l,m⟩:=trodAll_cons h
   simp only [List.all_cons,Bool.and_eq_true,decide_eq_true_eq]at a
   exact⟨p,q,Below.trod f a.1.1 a.1.2 l i (fun x e=>hlt x (by simp [e])),qE f i a.2 m (fun x e=>hlt x (by simp [e])),rfl⟩
theorem qD{f:Func}{s:ChangeSpec}{a b:Bool}{W u:World}{args:Array Value}{g:List (DataW H)}{c:List MemPlace}{bt:TypeId}
 (y:laidOutB P=true) (k:(f.params.toList.all fun t=>P.readableRec t&&decide (t<P.types.size))=true) (v:s.vars=[])
 (l:DataW.Whole enc P f.params.toList s.vars a W args.toList g [] c) (d:s.fn H (g++[])={results:=[.lit (.bool true)],args:=g}) (j:Below W.heap.size W u)
 (m:P.underlying bt=some .bool) (n:f.resultTypes=#[bt]):
 s.post enc P f a true b false W args (.bool true) u:=by
 have hlt:=l.lt
 have o:=l
 obtain⟨p,q,z,w,rfl,C,D⟩:=l
 rw [v]at w
 obtain⟨_,rfl⟩:=trodVars_none w
 refine⟨g,[],_,[],p,[],o,?_,?_,?_,⟨j.os,j.output,fun i A=>?_⟩,fun h=>by cases h⟩
 . rw [d,n]
   exact trodAll_cons_mk (shut_bool m _) trodAll_mk0
 . rw [d]
   exact qE y j k z (fun x B=>hlt x (by simpa using B))
 . rw [d,v];rfl
 . rw [j.block i A]
   split
   . rename_i r e;rw [r]at e;cases e;exact⟨rfl,rfl,rfl,fun _ _=>rfl⟩
   . rename_i r e;rw [r]at e;cases e;exact .inr ⟨rfl,rfl⟩
   . rfl

end
end Go.Ab

namespace Go.Ab
open Go.ChangeShapes Go.WideShapes Go.RowKit
noncomputable section

def ij(n:Nat):Value->Value
 | .bool b=>.bool b
 | .int k i=>.int k i
 | .string s=>.string s
 | .pointer none=>.pointer none
 | .pointer (some a)=>if a.spot=none/\a.block<n then .pointer (some ⟨a.block+16,a.off,none⟩)else poison
 | .slice none 0 0=>.slice none 0 0
 | .slice (some a) c d=>if c<=d then(if a.spot=none/\a.block<n then .slice (some ⟨a.block+16,a.off,none⟩) c d else .slice (some ⟨0,0,none⟩) c d)else poison
 |_=>poison
def absA(n:Nat):Value->Value
 | .agg a=>.agg ⟨a.toList.map (ij n)⟩
 |v=>ij n v
def absO(n:Nat):Obj->Blk
 | .cells a _ _=>.cells (Tr.ofList (a.toList.map (ij n))) (a.toList.map (ij n)).length 0 0
 |_=>.dead
def hpW(W:World):Hp:={n:=16+W.heap.size,t:=Tr.ofList (Xp 16 .dead++W.heap.toList.map (absO W.heap.size)),lo:=16+W.heap.size}
def muW(W:World):Mu:=fun b=>if b<16 then .dead else match W.heap[b-16]? with
 |some (.cells a _ _)=>.blk (b-16) 0 a.size
 |some _=>.dead
 |none=>.none

theorem hpW_ok(W:World):(hpW W).t.Sized (hpW W).n:=by
 have h:=Tr.sized_ofList (Xp 16 Blk.dead++W.heap.toList.map (absO W.heap.size))
 have a:(Xp 16 Blk.dead++W.heap.toList.map (absO W.heap.size)).length=16+W.heap.size:=by rw [List.length_append,List.length_replicate,List.length_map,Array.length_toList]
 rw [a]at h
 exact h
theorem hpW_dead(W:World){b:Nat}(h:b<16):(hpW W).get b=some .dead:=by
 show(Tr.ofList _).get b=_
 rw [Tr.get_ofList,Xh (by simpa using h),List.getElem?_replicate,if_pos h]
theorem qF(W:World)(c:Nat):(hpW W).get (c+16)=(W.heap[c]?).map (absO W.heap.size):=by
 show(Tr.ofList _).get (c+16)=_
 rw [Tr.get_ofList,Xa (by simp)]
 simp
theorem mW(W:World)(c:Nat):muW W (c+16)=match W.heap[c]? with
 |some (.cells cs _ _)=>.blk c 0 cs.size
 |some _=>.dead
 |none=>.none:=by
 unfold muW
 rw [if_neg (by omega),show c+16-16=c by omega]
theorem arel_W{W:World}{a:Addr}(h:a.spot=none/\a.block<W.heap.size):dY (muW W) ⟨a.block+16,a.off,none⟩ a:=by
 obtain⟨b,o,s⟩:=a
 obtain⟨c,d⟩:=h
 simp only []at c d
 subst c
 unfold dY
 rw [mW]
 rw [Xb d]
 cases W.heap[b]<;>simp
theorem vrel_V(W:World)(v:Value):aq (muW W) (ij W.heap.size v) v:=by
 cases v<;>(try exact .poison _)
 . exact .bool _
 . exact .int _ _
 . exact .string _
 . rename_i a
   cases a with
   |none=>exact .nilp
   | some a=>
     simp only [ij]
     split
     . exact .ptr (arel_W ‹_›)
     . exact .poison _
 . rename_i a d e
   cases a with
   | none=>
     cases d with
     | zero=>cases e with
       |zero=>exact .nils
       |succ n=>exact .poison _
     |succ n=>exact .poison _
   | some a=>
     simp only [ij]
     split
     . rename_i c
       split
       . rename_i h
         refine .slice c ?_
         have:=arel_W h
         obtain⟨b,o,s⟩:=a
         obtain⟨f,g⟩:=h
         simp only []at f g
         subst f
         unfold dH
         rw [mW]
         rw [Xb g]
         cases W.heap[b]<;>simp
       . refine .slice c ?_
         unfold dH
         have:muW W 0=.dead:=by simp [muW]
         rw [this]
         exact Xg _
     . exact .poison _
theorem vrel_A(W:World)(v:Value):aq (muW W) (absA W.heap.size v) v:=by
 cases v
 case agg d=>
  refine .agg (by simp) fun i x e a b=>?_
  simp only [Xj,Xk]at a
  obtain⟨y,c,rfl⟩:=a
  rw [c]at b
  cases b
  exact vrel_V W _
 all_goals (unfold absA;exact vrel_V W _)
theorem hrelW(W:World):aF (muW W) (hpW W) W:=by
 refine⟨hpW_ok W,fun b c d e a=>?_,fun b a=>?_,fun b t c d e j p u f=>?_,fun b a=>?_⟩
 . have x:16<=b:=by
    rcases Xi b 16 with h|h
    . unfold muW at a;rw [if_pos h]at a;cases a
    . exact h
   obtain⟨k,rfl⟩: ∃k,b=k+16:=⟨b-16,by omega⟩
   rw [mW]at a
   split at a
   next q el r s=>
    cases a
    refine⟨absO W.heap.size (.cells q el r),_,by rw [qF,s];rfl,s,q,el,r,rfl,rfl,by simp,Tr.sized_ofList _,fun i v l=>?_,fun h=>absurd rfl h⟩
    rw [Tr.get_ofList]at l
    simp only [Xj,Xk]at l
    obtain⟨y,w,rfl⟩:=l
    exact⟨y,by simpa using w,vrel_V W y⟩
   next=>cases a
   next=>cases a
 . rcases Xi b 16 with h|h
   . exact hpW_dead W h
   . obtain⟨k,rfl⟩: ∃k,b=k+16:=⟨b-16,by omega⟩
     rw [mW]at a
     split at a
     next=>cases a
     next o m n=>
      rw [qF,n]
      cases o<;>first|rfl|exact absurd rfl (m _ _ _)
     next=>cases a
 . have g: ∀b c d e,muW W b=.blk c d e->b=c+16:=by
    intro b c d e a
    rcases Xi b 16 with h|h
    . unfold muW at a;rw [if_pos h]at a;cases a
    . obtain⟨k,rfl⟩: ∃k,b=k+16:=⟨b-16,by omega⟩
      rw [mW]at a
      split at a<;>cases a
      rfl
   rw [g b c _ _ u,g t c _ _ f]
 . show b<16+W.heap.size
   rcases Xi b 16 with h|h
   . omega
   . obtain⟨k,rfl⟩: ∃k,b=k+16:=⟨b-16,by omega⟩
     rw [mW]at a
     have:k<W.heap.size:=by
      rcases Xi k W.heap.size with f|f
      . exact f
      . rw [Array.getElem?_eq_none f]at a;exact absurd rfl a
     omega
theorem globW(W:World):kT (muW W):=by
 intro g a
 unfold dY
 have:muW W g=.dead:=by unfold muW;rw [if_pos a]
 simp only [this]
theorem belowW{W w':World}{f:Mu}{n:Hp}(e:Ext (muW W) (hpW W) W f n w'):Below W.heap.size W w':=by
 refine⟨e.os,e.tape,e.output,e.wsize,fun c g=>?_⟩
 cases j:W.heap[c]with
 | cells i el o=>
   have l:W.heap[c]? =some (.cells i el o):=by rw [Xb g,j]
   have p:muW W (c+16)=.blk c 0 i.size:=by rw [mW,l]
   exact(e.ro (c+16) c 0 i.size _ _ 0 p (by rw [qF,l];rfl)).1
 | _ =>
   refine e.frame c g fun b m q a=>?_
   rcases Xi b 16 with h|h
   . unfold muW at a;rw [if_pos h]at a;cases a
   . obtain⟨k,rfl⟩: ∃k,b=k+16:=⟨b-16,by omega⟩
     rw [mW]at a
     split at a
     next r s t d=>
      cases a
      rw [Xb g,j]at d
      cases d
     next=>cases a
     next=>cases a
theorem calls_W{E:Env}{P:Program}(h:EOk E P){f:FuncId}{args:Array Value}{W:World}(j:aK E f (args.toList.map (absA W.heap.size)) (hpW W) (.bool true)):
 Calls P f args W fun e w'=>e=.returned (.bool true)/\Below W.heap.size W w':=by
 obtain⟨v,C,k,rfl,g⟩:=j
 intro l
 obtain⟨_,a⟩:=lim_ok h _ _ _ _ _ _ _ k
 have m:VL (muW W) (args.toList.map (absA W.heap.size)) args.toList:=by
  refine⟨by simp,fun i x D a c=>?_⟩
  simp only [Xj,Xk]at a
  obtain⟨y,n,rfl⟩:=a
  rw [n]at c
  cases c
  exact vrel_A W _
 obtain⟨o,w',d,p,F,q,G,r,s,t,u⟩:=a (muW W) W args none l .normal (hrelW W) (globW W) m trivial (.inl rfl)
 have:=r.normal
 subst this
 obtain⟨H,b,w⟩:=t
 cases w
 obtain⟨z,A,B⟩:=b.res
 exact⟨.returned (.bool true),w',p,⟨rfl,belowW q⟩,s,u,b.mode,b.defers,b.kind,z,A,B⟩
theorem load_W{W:World}{a:Addr}{i:Nat}{v:Value}(c:a.spot=none)(h:W.cell? (a.add i)=some v):(hpW W).load (a.block+16) (a.off+i) 1=some [ij W.heap.size v]:=by
 obtain⟨b,o,s⟩:=a
 simp only []at c
 subst c
 have d:(Addr.mk b o none).add i=⟨b,o+i,none⟩:=by
  unfold Addr.add
  split
  . rename_i h;subst h;rfl
  . rfl
 rw [d]at h
 unfold World.cell? at h
 simp only []at h
 split at h
 next e el k f=>
  have g:Row (hpW W) (b+16) (e.toList.map (ij W.heap.size)) 0:=⟨_,_,by rw [qF,f];rfl,Tr.sized_ofList _,fun j=>Tr.get_ofList _ j⟩
  refine g.load1 ?_
  rw [Xj]
  simp at h
  simp [h]
 all_goals (first|cases h|skip)
end
end Go.Ab

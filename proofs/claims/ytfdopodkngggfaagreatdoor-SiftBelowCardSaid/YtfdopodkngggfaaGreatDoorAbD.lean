/- A deterministic evaluator of the model's code, and that the model follows it (part 4). -/
import Derived.Test.YtfdopodkngggfaaGreatDoorAbC
import Derived.Orders
open Array renaming getElem?_eq_getElem->zM,getElem?_toList->Xa,getD_eq_getD_getElem?->Xf,getElem?_setIfInBounds->Xt,replicate->Xz,getElem?_eq_none->XA,getElem?_push->XG
open Nat renaming eq_of_beq_eq_true->zO,le_refl->Xc,zero_add->Xe,lt_or_ge->Xh,lt_of_lt_of_le->Xi,lt_trichotomy->Xk,le_trans->Xn,beq->Xo,zero_le->Xp,add_zero->Xu,beq_refl->Xv,lor->XB,le_of_ble_eq_true->XC,ble_eq_true_of_le->XD,ble->XH
open Bool renaming and_eq_true->Xb,not_eq_true'->Xl,or_eq_true->Xs
open List renaming mem_cons_of_mem->Xd,mem_cons_self->Xg,getElem?_eq_getElem->Xj,getElem?_eq_none->Xm,length_cons->Xq,getElem_mem->Xw,getElem?_cons_succ->Xx,mem_filter->Xy,mem_range->XE,mem_of_getElem?->XF
open Option renaming getD_some->Xr
set_option maxHeartbeats 400000
set_option linter.defProp false
set_option linter.unusedVariables false
set_option linter.unusedSimpArgs false
namespace Go.Ab

def Sub(q a:Nat):Prop:= ∀i,q.testBit i=true->a.testBit i=true
theorem cM(a b i:Nat):(XB a b).testBit i=(a.testBit i||b.testBit i):=Nat.testBit_or a b i
theorem iF(n i:Nat):(Nat.pow 2 n).testBit i=decide (n=i):=Nat.testBit_two_pow
def binds(e:Edge):Bool:=Region.binds .any e

def BefOk(ops:List Oper)(M:List Nat)(i:Nat):Prop:= ∀o,ops[i]? =some o-> ∃m,M[i]? =some m/\(∀e∈o.after.toList,binds e=true->e.on<i)/\
 ∀b,m.testBit b=true-> ∃e∈o.after.toList,binds e=true/\(b=e.on\/ ∃a,M[e.on]? =some a/\a.testBit b=true)

theorem yj (a:List Nat): ∀(g:List Edge) (p:Option Nat) (m:Nat),g.foldl (fun s e=>match s with
 |none=>none
 | some s=>match e.ground with
   | .textOnly _=>some s
   | .gcOnly _=>some s
   | _=>match a[a.length-1-e.on]? with
     |none=>none
     |some m=>bif Nat.blt e.on a.length then some (XB (XB s (Nat.pow 2 e.on)) m)else none) p=some m->
 ∃ s,p=some s/\(∀e∈g,binds e=true->e.on<a.length)/\
   ∀b,m.testBit b=true->s.testBit b=true\/ ∃e∈g,binds e=true/\(b=e.on\/ ∃i,a.reverse[e.on]? =some i/\i.testBit b=true)
 | [],p,m,h=>⟨m,h,by simp,fun b n=>.inl n⟩
 | e :: g,p,m,h=>by
   rw [List.foldl_cons]at h
   obtain⟨u,k,v,w⟩:=yj a g _ m h
   cases p with
   |none=>cases k
   | some s=>
     refine⟨s,rfl,?_⟩
     have skip:binds e=false->u=s->(∀d∈e::g,binds d=true->d.on<a.length)/\
      ∀b,m.testBit b=true->s.testBit b=true\/ ∃d∈e::g,binds d=true/\(b=d.on\/ ∃i,a.reverse[d.on]? =some i/\i.testBit b=true):=by
      intro n y
      subst y
      refine⟨fun d c f=>?_,fun b l=>?_⟩
      . rcases List.mem_cons.1 c with rfl|c
        . rw [n]at f;cases f
        . exact v d c f
      . rcases w b l with x|⟨d,c,x⟩
        . exact .inl x
        . exact .inr ⟨d,Xd _ c,x⟩
     have q:binds e=true->(match a[a.length-1-e.on]? with
      |none=>none
      |some m=>bif Nat.blt e.on a.length then some (XB (XB s (Nat.pow 2 e.on)) m)else none)=some u->(∀d∈e::g,binds d=true->d.on<a.length)/\
      ∀b,m.testBit b=true->s.testBit b=true\/ ∃d∈e::g,binds d=true/\(b=d.on\/ ∃i,a.reverse[d.on]? =some i/\i.testBit b=true):=by
      intro n o
      split at o
      next=>cases o
      next m0 t=>
       cases hlt:Nat.blt e.on a.length with
       |false=>rw [hlt]at o;cases o
       | true=>
         rw [hlt]at o
         cases o
         have j:e.on<a.length:=by simpa [Nat.blt_eq]using hlt
         refine⟨fun d c f=>?_,fun b l=>?_⟩
         . rcases List.mem_cons.1 c with rfl|c
           . exact j
           . exact v d c f
         . rcases w b l with x|⟨d,c,x⟩
           . rw [cM,cM,iF]at x
             simp only [Xs,decide_eq_true_eq]at x
             rcases x with(x|x)|x
             . exact .inl x
             . exact .inr ⟨e,Xg,n,.inl x.symm⟩
             . exact .inr ⟨e,Xg,n,.inr ⟨m0,by rw [List.getElem?_reverse j];exact t,x⟩⟩
           . exact .inr ⟨d,Xd _ c,x⟩
     cases r:e.ground<;>rw [r]at k
     case textOnly=>simp only [Option.some.injEq]at k;exact skip (by simp [binds,Region.binds,r]) k.symm
     case gcOnly=>simp only [Option.some.injEq]at k;exact skip (by simp [binds,Region.binds,r]) k.symm
     all_goals exact q (by simp [binds,Region.binds,r]) k

theorem befs_ok: ∀(os:List Oper) (a c:List Nat),befs os a=some c->c.length=a.length+os.length/\(∀i,i<a.length->c.reverse[i]? =a.reverse[i]?)/\
 ∀ j o,os[j]? =some o-> ∃m,c.reverse[a.length+j]? =some m/\(∀e∈o.after.toList,binds e=true->e.on<a.length+j)/\
   ∀b,m.testBit b=true-> ∃e∈o.after.toList,binds e=true/\(b=e.on\/ ∃k,c.reverse[e.on]? =some k/\k.testBit b=true)
 | [],a,c,h=>by cases h;exact⟨rfl,fun _ _=>rfl,fun j o r=>by simp at r⟩
 | o :: os,a,c,h=>by
   simp only [befs]at h
   split at h
   next=>cases h
   next s t=>
    obtain⟨D,u,n,v⟩:=yj a _ _ _ t
    cases u
    obtain⟨w,p,y⟩:=befs_ok os (s::a) c h
    have d: ∀i,i<a.length->c.reverse[i]? =a.reverse[i]? :=by
     intro i z
     rw [p i (by simp;omega),List.reverse_cons,List.getElem?_append_left (by simpa using z)]
    refine⟨by rw [w];simp;omega,d,fun j A f=>?_⟩
    cases j with
    | zero=>
      simp at f
      subst f
      refine⟨s,?_,n,fun b B=>?_⟩
      . rw [Xu,p a.length (by simp),List.reverse_cons,List.getElem?_append_right (by simp)]
        simp
      . rcases v b B with x|⟨e,q,g,x⟩
        . simp at x
        . refine⟨e,q,g,?_⟩
          rcases x with x|⟨k,l,x⟩
          . exact .inl x
          . exact .inr ⟨k,by rw [d _ (n e q g)];exact l,x⟩
    | succ j=>
      obtain⟨m,m1,m2,m3⟩:=y j A (by simpa using f)
      have C:(s::a).length+j=a.length+(j+1):=by simp;omega
      rw [C]at m1 m2
      exact⟨m,m1,m2,m3⟩

def Owe(E:Env)(ops:List Oper)(o p:Oper)(i n q:Nat)(l:List (Nat×Nat)):Prop:=
 q7 ops o p=true/\(cls E o.op=0\/cls E p.op=0\/(cls E o.op=1/\cls E p.op=1)\/(cls E o.op=2/\cls E p.op=1/\(jq o.op p.op=true\/(i,n)∈l))\/
  (cls E o.op=1/\cls E p.op=2/\(jq p.op o.op=true\/(i,n)∈l))\/(cls E o.op=5/\cls E p.op=1/\(i,n)∈l)\/(cls E o.op=1/\cls E p.op=5/\(i,n)∈l)\/
  (cls E o.op≠2/\cls E p.op≠2/\(cls E p.op=3\/cls E p.op=5->q.testBit i=true)/\(cls E o.op=3\/cls E o.op=5->q.testBit n=true))\/
  (cls E o.op=3/\cls E p.op=1/\dK o.op=true/\(i,n)∈l)\/(cls E o.op=1/\cls E p.op=3/\dK p.op=true/\(i,n)∈l)\/(cls E o.op=3/\cls E p.op=4/\dK o.op=true/\eS p.op=true/\(i,n)∈l))
theorem Owe.mono{E:Env}{ops:List Oper}{o p:Oper}{i n q f:Nat}{l l':List (Nat×Nat)}(hq:Sub q f)(e: ∀x∈l,x∈l')(h:Owe E ops o p i n q l):Owe E ops o p i n f l':=by
 obtain⟨g,j⟩:=h
 refine⟨g,?_⟩
 rcases j with h|h|h|⟨a,b,h⟩|⟨a,b,h⟩|⟨a,b,h⟩|⟨a,b,h⟩|⟨a,b,c,d⟩|⟨a,b,c,h⟩|⟨a,b,c,h⟩|⟨a,b,c,d,h⟩
 . exact .inl h
 . exact .inr (.inl h)
 . exact .inr (.inr (.inl h))
 . exact .inr (.inr (.inr (.inl ⟨a,b,h.imp id (e _)⟩)))
 . exact .inr (.inr (.inr (.inr (.inl ⟨a,b,h.imp id (e _)⟩))))
 . exact .inr (.inr (.inr (.inr (.inr (.inl ⟨a,b,e _ h⟩)))))
 . exact .inr (.inr (.inr (.inr (.inr (.inr (.inl ⟨a,b,e _ h⟩))))))
 . exact .inr (.inr (.inr (.inr (.inr (.inr (.inr (.inl ⟨a,b,fun x=>hq _ (c x),fun x=>hq _ (d x)⟩)))))))
 . exact .inr (.inr (.inr (.inr (.inr (.inr (.inr (.inr (.inl ⟨a,b,c,e _ h⟩))))))))
 . exact .inr (.inr (.inr (.inr (.inr (.inr (.inr (.inr (.inr (.inl ⟨a,b,c,e _ h⟩)))))))))
 . exact .inr (.inr (.inr (.inr (.inr (.inr (.inr (.inr (.inr (.inr ⟨a,b,c,d,e _ h⟩)))))))))

theorem owed_ok {E:Env} {ops:List Oper} {o:Oper} {m n:Nat}: ∀(ps:List Oper) (i:Nat) (q:Nat) (l:List (Nat×Nat)) (g:Nat) (l':List (Nat×Nat)),je E ops o m n ps i (q,l)=some (g,l')->
 Sub q g/\(∀x∈l,x∈l')/\ ∀j p,ps[j]? =some p->m.testBit (i+j)=false->Owe E ops o p (i+j) n g l'
 | [],i,q,l,g,l',h=>by cases h;exact⟨fun _ x=>x,fun _ x=>x,fun j p y=>by simp at y⟩
 | p :: ps,i,q,l,g,l',h=>by
   have next: ∀{s:Nat} {t:List (Nat×Nat)},je E ops o m n ps (i+1) (s,t)=some (g,l')->Sub q s->(∀x∈l,x∈t)->(m.testBit i=false->Owe E ops o p i n s t)->
    Sub q g/\(∀x∈l,x∈l')/\ ∀j u,(p::ps)[j]? =some u->m.testBit (i+j)=false->Owe E ops o u (i+j) n g l':=by
    intro s t z A B C
    obtain⟨v,w,D⟩:=owed_ok ps (i+1) s t g l' z
    refine⟨fun x a=>v x (A x a),fun x a=>w x (B x a),fun j u k r=>?_⟩
    cases j with
    | zero=>
      simp at k
      subst k
      exact(C r).mono v w
    | succ j=>
      have:=D j u (by simpa using k) (by rw [show i+1+j=i+(j+1) by omega];exact r)
      rwa [show i+1+j=i+(j+1) by omega]at this
   simp only [je]at h
   cases r:m.testBit i with
   | true=>
     rw [r]at h
     exact next h (fun _ x=>x) (fun _ x=>x) (fun hf=>by rw [r]at hf;cases hf)
   | false=>
     rw [r]at h
     simp only [cond_false]at h
     cases d:q7 ops o p with
     |false=>rw [d]at h;cases h
     | true=>
       rw [d]at h
       simp only [cond_true]at h
       split at h
       next c=>exact next h (fun _ x=>x) (fun _ x=>x) (fun _=>⟨d,.inl c⟩)
       next b _=>exact next h (fun _ x=>x) (fun _ x=>x) (fun _=>⟨d,.inr (.inl b)⟩)
       next c b=>exact next h (fun _ x=>x) (fun _ x=>x) (fun _=>⟨d,.inr (.inr (.inl ⟨c,b⟩))⟩)
       next c b=>
        refine next h (fun _ x=>x) ?_ (fun _=>⟨d,.inr (.inr (.inr (.inl ⟨c,b,?_⟩)))⟩)
        . intro x a;cases jq o.op p.op<;>simp [a]
        . cases jq o.op p.op<;>simp
       next c b=>
        refine next h (fun _ x=>x) ?_ (fun _=>⟨d,.inr (.inr (.inr (.inr (.inl ⟨c,b,?_⟩))))⟩)
        . intro x a;cases jq p.op o.op<;>simp [a]
        . cases jq p.op o.op<;>simp
       next c b=>
        exact next h (fun _ x=>x) (fun x a=>Xd _ a) (fun _=>⟨d,.inr (.inr (.inr (.inr (.inr (.inl ⟨c,b,Xg⟩)))))⟩)
       next c b=>
        exact next h (fun _ x=>x) (fun x a=>Xd _ a) (fun _=>⟨d,.inr (.inr (.inr (.inr (.inr (.inr (.inl ⟨c,b,Xg⟩))))))⟩)
       next c b=>
        cases f:dK o.op with
        | true=>
          rw [f]at h
          exact next h (fun _ x=>x) (fun x a=>Xd _ a) (fun _=>⟨d,.inr (.inr (.inr (.inr (.inr (.inr (.inr (.inr (.inl ⟨c,b,f,Xg⟩))))))))⟩)
        | false=>
          rw [f]at h
          refine next h (fun x a=>by rw [cM,a];simp) (fun _ x=>x) (fun _=>⟨d,.inr (.inr (.inr (.inr (.inr (.inr (.inr (.inl ⟨by omega,by omega,fun e=>by omega,fun _=>?_⟩)))))))⟩)
          rw [cM,iF];simp
       next c b=>
        cases f:dK p.op with
        | true=>
          rw [f]at h
          exact next h (fun _ x=>x) (fun x a=>Xd _ a) (fun _=>⟨d,.inr (.inr (.inr (.inr (.inr (.inr (.inr (.inr (.inr (.inl ⟨c,b,f,Xg⟩)))))))))⟩)
        | false=>
          rw [f]at h
          refine next h (fun x a=>by rw [cM,a];simp) (fun _ x=>x) (fun _=>⟨d,.inr (.inr (.inr (.inr (.inr (.inr (.inr (.inl ⟨by omega,by omega,fun _=>?_,fun e=>by omega⟩)))))))⟩)
          rw [cM,iF];simp
       next c b=>
        cases f:dK o.op&&eS p.op with
        | true=>
          rw [f]at h
          simp only [Xb]at f
          exact next h (fun _ x=>x) (fun x a=>Xd _ a) (fun _=>⟨d,.inr (.inr (.inr (.inr (.inr (.inr (.inr (.inr (.inr (.inr ⟨c,b,f.1,f.2,Xg⟩)))))))))⟩)
        | false=>
          rw [f]at h
          refine next h (fun x a=>by rw [cM,a];simp) (fun _ x=>x) (fun _=>⟨d,.inr (.inr (.inr (.inr (.inr (.inr (.inr (.inl ⟨by omega,by omega,fun e=>by omega,fun _=>?_⟩)))))))⟩)
          rw [cM,iF];simp
       next=>cases h
       next=>cases h
       next=>
        refine next h ?_ (fun _ x=>x) (fun _=>⟨d,.inr (.inr (.inr (.inr (.inr (.inr (.inr (.inl ⟨?_,?_,?_,?_⟩)))))))⟩)
        . intro x a
          rw [cM,cM,a];simp
        . exact ‹cls E o.op=2->False›
        . exact ‹cls E p.op=2->False›
        . intro b
          rw [cM]
          have:(Xo (cls E p.op) 3||Xo (cls E p.op) 5)=true:=by rcases b with e|e<;>rw [e]<;>rfl
          rw [this]
          simp [iF]
        . intro b
          rw [cM,cM]
          have:(Xo (cls E o.op) 3||Xo (cls E o.op) 5)=true:=by rcases b with e|e<;>rw [e]<;>rfl
          rw [this]
          simp [iF]
end Go.Ab

namespace Go.Ab

theorem uu {E:Env} {ops:List Oper}: ∀(os:List Oper) (g:List Nat) (n q:Nat) (l:List (Nat×Nat)) (d:Nat) (l':List (Nat×Nat)),ru E ops os g n (q,l)=some (d,l')->
 Sub q d/\(∀x∈l,x∈l')/\ ∀j o,os[j]? =some o->(cls E o.op=4->d.testBit (n+j)=true)/\
  ∃m,g[j]? =some m/\ ∀i p,i<n+j->ops[i]? =some p->m.testBit i=false->Owe E ops o p i (n+j) d l'
 | [],g,n,q,l,d,l',h=>by cases g<;>(cases h;exact⟨fun _ x=>x,fun _ x=>x,fun j o v=>by simp at v⟩)
 |o::os,[],n,q,l,d,l',h=>by cases h
 | o :: os,m::g,n,q,l,d,l',h=>by
   simp only [ru]at h
   split at h
   next=>cases h
   next r w y=>
    obtain⟨z,A,B⟩:=owed_ok _ _ _ _ _ _ y
    obtain⟨s,t,C⟩:=uu os g (n+1) _ w d l' h
    have u:Sub r d:=by
     intro x k
     apply s
     cases Xo (cls E o.op) 4 with
     |true=>simp only [cond_true];rw [cM,k];simp
     |false=>exact k
    refine⟨fun x k=>u x (z x k),fun x k=>t x (A x k),fun j D f=>?_⟩
    cases j with
    | zero=>
      simp at f
      subst f
      refine⟨fun F=>?_,m,rfl,fun i p J G H=>?_⟩
      . apply s
        rw [F]
        show(XB (Nat.pow 2 n) r).testBit (n+0)=true
        rw [cM,iF];simp
      . have:=B i p (by rw [List.getElem?_take,if_pos (by omega)];exact G) (by rw [Xe];exact H)
        rw [Xe]at this
        exact this.mono u t
    | succ j=>
      obtain⟨a,I,b,c⟩:=C j D (by simpa using f)
      have e:n+1+j=n+(j+1):=by omega
      rw [e]at a c
      exact⟨a,I,by simpa using b,c⟩

theorem plan_ok{E:Env}{ops:List Oper}{q:Nat}{ps:List (Nat×Nat)}(h:plan E ops=some (q,ps)):
 ∃ M:List Nat,(∀i,BefOk ops M i)/\ ∀n o,ops[n]? =some o->(cls E o.op=4->q.testBit n=true)/\
   ∀m,M[n]? =some m-> ∀i p,i<n->ops[i]? =some p->m.testBit i=false->Owe E ops o p i n q ps:=by
 unfold plan at h
 split at h
 next=>cases h
 next g e=>
  obtain⟨_,_,j⟩:=befs_ok _ _ _ e
  obtain⟨_,_,k⟩:=uu _ _ _ _ _ _ _ h
  refine⟨g.reverse,fun i o f=>?_,fun n o f=>?_⟩
  . have:=j i o f
    simpa using this
  . obtain⟨a,m,b,c⟩:=k n o f
    rw [Xe]at a c
    exact⟨a,fun l d=>by rw [b]at d;cases d;exact c⟩

inductive rL(E:Env)(R:Rec)(ops:List Oper)(q i:Nat)(o:Oper)(l:Loc)(h:Hp):Loc->Hp->Option Nat->Bool->Prop
 |skip:cm ops l.regs o=some false->rL E R ops q i o l h (l.put o.dst (.tuple #[])) h none false
 |exec {v:Value} {h':Hp}:cm ops l.regs o=some true->cJ E R (l.evD (tmpsOf o.op.operands.toList)) (eB E q i o.op) o h=some (v,h')->
  rL E R ops q i o l h (l.put o.dst v) h' (jO (l.evD (tmpsOf o.op.operands.toList)) o.op h) true

theorem ye {E:Env} {R:Rec} {ops:List Oper} {q:Nat}: ∀(os:List Oper) (i:Nat) (l:Loc) (h:Hp) (f:List (Nat×Tch)) (l':Loc) (p:Hp) (a:List (Nat×Tch)),dZ E R ops q os i l h f=some (l',p,a)->
 (∀k,k<i->cq k a=cq k f)/\
 ∃ (L:Nat->Loc) (H:Nat->Hp) (T:Nat->Option Nat) (X:Nat->Bool),L i=l/\H i=h/\L (i+os.length)=l'/\H (i+os.length)=p/\
   (∀j o,os[j]? =some o->rL E R ops q (i+j) o (L (i+j)) (H (i+j)) (L (i+j+1)) (H (i+j+1)) (T (i+j)) (X (i+j)))/\
   (∀j o b,os[j]? =some o->dK o.op=false->T (i+j)=some b->cq (i+j) a=some (.blk b))/\
   (∀j o,os[j]? =some o->dK o.op=true->X (i+j)=true->eB E q (i+j) o.op=false->cq (i+j) a=some (.run (H (i+j)) (H (i+j+1))))
 | [],i,l,h,f,l',p,a,g=>by
   cases g
   exact⟨fun _ _=>rfl,fun _=>l,fun _=>h,fun _=>none,fun _=>false,rfl,rfl,rfl,rfl,fun j o u=>by simp at u,fun j o b u=>by simp at u,fun j o u=>by simp at u⟩
 | o :: os,i,l,h,f,l',p,a,g=>by
   have next: ∀{A:Loc} {r:Hp} {d:List (Nat×Tch)} {t:Option Nat} {x:Bool} {nt:Option Tch},dZ E R ops q os (i+1) A r d=some (l',p,a)->d=ii i f nt->rL E R ops q i o l h A r t x->
    (dK o.op=false-> ∀b,t=some b->nt=some (.blk b))->(dK o.op=true->x=true->eB E q i o.op=false->nt=some (.run h r))->
    (∀k,k<i->cq k a=cq k f)/\
    ∃ (L:Nat->Loc) (H:Nat->Hp) (T:Nat->Option Nat) (X:Nat->Bool),L i=l/\H i=h/\L (i+(o::os).length)=l'/\H (i+(o::os).length)=p/\
      (∀j o',(o::os)[j]? =some o'->rL E R ops q (i+j) o' (L (i+j)) (H (i+j)) (L (i+j+1)) (H (i+j+1)) (T (i+j)) (X (i+j)))/\
      (∀j o' b,(o::os)[j]? =some o'->dK o'.op=false->T (i+j)=some b->cq (i+j) a=some (.blk b))/\
      (∀j o',(o::os)[j]? =some o'->dK o'.op=true->X (i+j)=true->eB E q (i+j) o'.op=false->cq (i+j) a=some (.run (H (i+j)) (H (i+j+1)))):=by
    intro A r d t x nt C w J K M
    obtain⟨F,L,H,T,X,N,G,O,P,Q,S,U⟩:=ye os (i+1) A r d l' p a C
    have m: ∀k,k<i->cq k d=cq k f:=by
     intro k I
     rw [w]
     cases nt with
     |none=>rfl
     | some b=>
       show(bif Xo k i then some b else cq k f)=_
       rw [cF,decide_eq_false (by omega)];rfl
    have y: ∀e,nt=some e->cq i a=some e:=by
     intro e V
     rw [F i (by omega),w,V]
     show(bif Xo i i then some e else cq i f)=_
     rw [Xv];rfl
    refine⟨fun k I=>(F k (by omega)).trans (m k I),fun k=>if k=i then l else L k,fun k=>if k=i then h else H k,fun k=>if k=i then t else T k,fun k=>if k=i then x else X k,by simp,by simp,?_,?_,?_,?_,?_⟩
    . show(if i+(o::os).length=i then l else L (i+(o::os).length))=l'
      rw [Xq,if_neg (by omega),<-O];congr 1;omega
    . show(if i+(o::os).length=i then h else H (i+(o::os).length))=p
      rw [Xq,if_neg (by omega),<-P];congr 1;omega
    . intro j o' c
      cases j with
      | zero=>
        simp at c
        subst c
        simp only [Xu,if_true,if_neg (show¬i+1=i by omega)]
        rw [N,G];exact J
      | succ j=>
        have:=Q j o' (by simpa using c)
        have e:i+1+j=i+(j+1):=by omega
        rw [e]at this
        simp only [if_neg (show¬i+(j+1)=i by omega),if_neg (show¬i+(j+1)+1=i by omega)]
        exact this
    . intro j o' b c n s
      cases j with
      | zero=>
        simp at c
        subst c
        simp only [Xu,if_true]at s⊢
        exact y _ (K n b s)
      | succ j=>
        simp only [if_neg (show¬i+(j+1)=i by omega)]at s
        have e:i+1+j=i+(j+1):=by omega
        have:=S j o' b (by simpa using c) n (by rw [e];exact s)
        rwa [e]at this
    . intro j o' c n B z
      cases j with
      | zero=>
        simp at c
        subst c
        simp only [Xu,if_true,if_neg (show¬i+1=i by omega)]at B z⊢
        rw [G]
        exact y _ (M n B z)
      | succ j=>
        simp only [if_neg (show¬i+(j+1)=i by omega),if_neg (show¬i+(j+1)+1=i by omega)]at B⊢
        have e:i+1+j=i+(j+1):=by omega
        have:=U j o' (by simpa using c) n (by rw [e];exact B) (by rw [e];exact z)
        rwa [e]at this
   simp only [dZ]at g
   split at g
   next=>cases g
   next D=>exact next (t:=none) (nt:=none) g rfl (.skip D) (fun _ b e=>by cases e) (fun _ e=>by cases e)
   next D=>
    split at g
    next=>cases g
    next v r W=>
     refine next g rfl (.exec D W) (fun n b s=>?_) (fun n _ z=>?_)
     . unfold cH;rw [n,s];rfl
     . unfold cH;rw [n,z];rfl

theorem qm{b:List (Nat×Tch)}: ∀{ps:List (Nat×Nat)},eh b ps=true-> ∀{i j:Nat},(i,j)∈ps->jm (cq i b) (cq j b)=true
 | [],_,i,j,a=>by cases a
 | (c,d)::ps,h,i,j,a=>by
   simp only [eh,Xb]at h
   rcases List.mem_cons.1 a with e|a
   . cases e;exact h.1
   . exact qm h.2 a

theorem rY{a b:Addr}(h:sameAddr a b=true):a=b:=by
 unfold sameAddr at h
 simp only [Xb]at h
 obtain⟨⟨f,g⟩,c⟩:=h
 have d:=zO f
 have e:=zO g
 obtain⟨x,y,z⟩:=a
 obtain⟨j,k,i⟩:=b
 simp only []at d e c
 subst d e
 cases z<;>cases i<;>simp at c
 . rfl
 . subst c;rfl
theorem oQ{a b:Value}(h:pQ a b=true):a=b:=by
 unfold pQ at h
 split at h
 next t c=>subst h;exact tQ c
 next=>
  split at h
  next=>rfl
  next=>rw [rY h]
  next=>
   simp only [Xb]at h
   rw [zO h.1,zO h.2]
  next=>
   simp only [Xb]at h
   rw [rY h.1,zO h.2.1,zO h.2.2]
  next=>rfl
  next=>rw [zO h]
  next=>rfl
  next=>rfl
  next=>cases h
theorem qW: ∀{l m:List Value},qK l m=true->l=m
 | [],[],_=>rfl
 | [],_::_,h=>by cases h
 |_::_,[],h=>by cases h
 | x::l,y::m,h=>by
   simp only [qK,Xb]at h
   rw [oQ h.1,qW h.2]
theorem vj{a b:Value}(h:tC a b=true):a=b:=by
 unfold tC at h
 split at h
 next g x y c d e=>
  simp only [Xb]at h
  rw [zO h.1,Array.toList_inj.1 (qW h.2.1),Array.toList_inj.1 (qW h.2.2)]
 next=>
  simp only [Xb]at h
  rw [zO h.1,oQ h.2]
 next=>exact oQ h
theorem sJ: ∀{t u:Tr Value},sameT t u=true->t=u
 | .nil,.nil,_=>rfl
 | .nil,.node ..,h=>by cases h
 | .node ..,.nil,h=>by cases h
 | .node x l r,.node a b c,h=>by
   simp only [sameT,Xb]at h
   rw [vj h.1,sJ h.2.1,sJ h.2.2]
theorem xB: ∀{l m:List (Value×Value×Nat)},sameE l m=true->l=m
 | [],[],_=>rfl
 | [],_::_,h=>by cases h
 |_::_,[],h=>by cases h
 | (k,x,n)::l,(a,y,m)::b,h=>by
   simp only [sameE,Xb]at h
   rw [oQ h.1,vj h.2.1,zO h.2.2.1,xB h.2.2.2]
theorem sameB_ok{x y:Blk}(h:sameB x y=true):x=y:=by
 unfold sameB at h
 rw [Xs]at h
 rcases h with h|h
 . split at h
   next=>
    simp only [Xb]at h
    rw [sJ h.1,zO h.2.1,zO h.2.2.1,zO h.2.2.2]
   next=>
    simp only [Xb]at h
    rw [zO h.1,xB h.2]
   next=>cases h
 . exact @of_decide_eq_true _ (Classical.propDecidable _) h
theorem u7{h d:Hp}{b:Nat}(e:leaves h d b=true):d.get b=h.get b:=by
 unfold leaves at e
 split at e
 next a c=>rw [a,c,sameB_ok e]
 next a c=>rw [a,c]
 next=>cases e
theorem pj{h a:Hp}{b:Nat}(e:a.get b=h.get b):leaves h a b=true:=by
 unfold leaves
 rw [e]
 cases h.get b with
 |none=>rfl
 | some x=>
   show sameB x x=true
   unfold sameB
   rw [Xs]
   exact .inr (@decide_eq_true _ (Classical.propDecidable _) rfl)
end Go.Ab

namespace Go.Ab

theorem hrel_lo{mu:Mu}{h:Hp}{w:World}(a:aF mu h w)(x:Nat):aF mu {h with lo:=x} w:=⟨a.sized,a.blk,a.dead,a.inj,a.lt⟩

theorem xe{mu:Mu}{ρ d:Operand->Value}(g: ∀x,aq mu (ρ x) (d x)){op:Op}{b:Nat}(e:touch ρ op=some b):mu b≠ .none:=by
 have j: ∀{x:Operand},(match ρ x with| .pointer (some a)=>some a.block|_=>none)=some b->mu b≠ .none:=by
  intro x f
  have:=g x
  split at f
  next a i=>rw [i]at this;cases f;generalize d x=y at this;cases this;rename_i h;exact h.in
  next=>cases f
 have n: ∀{x:Operand},(match ρ x with| .map r=>r|_=>none)=some b->mu b≠ .none:=by
  intro x f
  have:=g x
  split at f
  next r k=>rw [k]at this;subst f;generalize d x=y at this;cases this;rename_i h;exact h.in
  next=>cases f
 have o: ∀{x:Operand},(match ρ x with| .slice (some a) _ _=>some a.block|_=>none)=some b->mu b≠ .none:=by
  intro x f
  have:=g x
  split at f
  next a l c i=>rw [i]at this;cases f;generalize d x=y at this;cases this;rename_i m h;exact m.in
  next=>cases f
 unfold touch at e
 cases op<;>simp only []at e<;>(try (cases e;done))<;>(try exact j e)<;>(try exact n e)<;>(try exact o e)
 split at e
 next x p f=>
  have:=g x
  split at e
  next r k=>rw [k]at this;subst e;generalize d x=y at this;cases this;rename_i h;exact h.in
  next a l c i=>rw [i]at this;cases e;generalize d x=y at this;cases this;rename_i m h;exact m.in
  next=>cases e
 next=>cases e

section
variable{E:Env}{P:Program}(ok:EOk E P){R:Rec}(hc:ib E P R.call)(hcode:ji P R.code)

include ok hc hcode in
theorem oN{mu:Mu}{h m:Hp}{w:World}(t:aF mu h w)(u:kT mu){ρ:Operand->Value}{tmps:Array Value}(l: ∀x,aq mu (ρ x) (dh tmps x)){F:FC}{dfs:List Deferred}{k:List Item}{cs:List Frame}
 {ops:Array Oper} {i:Nat} {rest:List Nat} {o:Oper} (y:ops[i]? =some o) (z:Region.wanted o (yielded ops tmps)=true) {a:Bool} {v:Value} (f:cJ E R ρ a o h=some (v,m)):
 ∃ c w' v',aF c m w'/\Ext mu h w c m w'/\aq c v v'/\(a=true-> ∀b,b<h.n->m.get b=h.get b)/\
   Steps P (lone (F.mk' tmps dfs (.inRegion ops (i::rest)::k)) cs w) (lone (F.mk' (eY tmps o.dst v') dfs (.inRegion ops rest::k)) cs w'):=by
 cases a with
 | false=>
   simp only [cJ,cond_false]at f
   split at f
   next A n p=>
    cases f
    obtain⟨c,w',q,d,v',r,s⟩:=qS ok hc hcode t u l (F:=F) (dfs:=dfs) (k:=k) (cs:=cs) (rest:=rest) y z p
    exact⟨c,w',v',q,d,r,(fun e=>by cases e),s⟩
   next=>cases f
 | true=>
   simp only [cJ,cond_true]at f
   split at f
   next A n p=>
    cases j:XH h.n n.lo with
    |false=>rw [j]at f;cases f
    | true=>
      rw [j]at f
      cases f
      have hle:h.n<=n.lo:=XC j
      obtain⟨c,w',q,d,v',r,s⟩:=qS ok hc hcode (hrel_lo t h.n) u l (F:=F) (dfs:=dfs) (k:=k) (cs:=cs) (rest:=rest) y z p
      have g: ∀b,b<h.n->n.get b=h.get b:=fun b j=>d.same b j (by omega)
      exact⟨c,w',v',hrel_lo q h.lo,⟨d.n,d.old,d.fresh,Xc _,fun b j _=>g b j,d.frame,d.ro,d.wsize,d.os,d.tape,d.output,d.cover⟩,r,fun _=>g,s⟩
   next=>cases f

theorem l9(t:Nat): ∀l:List Nat,memb t l=true↔t∈l
 | []=>by simp [memb]
 | x ::l=>by
   simp only [memb,Xs,List.mem_cons,l9 t l]
   constructor
   . rintro(h|h)
     . exact .inl (zO h)
     . exact .inr h
   . rintro(h|h)
     . subst h;exact .inl (Xv _)
     . exact .inr h
theorem qg(t:Tmp): ∀l:List Operand,t∈tmpsOf l↔ .tmp t∈l
 | []=>by simp [tmpsOf]
 | x::l=>by
   cases x<;>simp [tmpsOf,qg t l]

theorem uH {mu:Mu} {l:Loc} {n:Nat} {tmps:Array Value} (h:l.regs.Sized n) (c:tmps.size=n) (ts:List Tmp) (j: ∀t∈ts,∀v,l.regs.get t=some v-> ∃v',tmps[t]? =some v'/\aq mu v v')
 (k:kT mu) (x:Operand):aq mu (l.evD ts x) (dh tmps x):=by
 cases x with
 | tmp t=>
   simp only [Loc.evD]
   cases m:memb t ts with
   |false=>exact .poison _
   | true=>
     simp only [cond_true,Loc.ev,dh]
     cases a:l.regs.get t with
     | none=>
       have:n<=t:=by
        rcases Xh t n with b|b
        . obtain⟨v,d⟩:=Tr.get_some h b;rw [d]at a;cases a
        . exact b
       rw [Xf,XA (by rw [c];exact this)]
       exact .tuple rfl (by intro i v v' a;simp at a)
     | some v=>
       obtain⟨v',b,d⟩:=j t ((l9 t ts).1 m) v a
       rw [Xf,b];exact d
 | const v=>
   simp only [Loc.evD,Loc.ev,dh]
   cases hc:cE v with
   |true=>simp only [cond_true];exact aq.const mu hc
   |false=>simp only [cond_false];exact .poison v
 | global g=>
   simp only [Loc.evD,Loc.ev,dh]
   cases e:Nat.blt g 16 with
   |true=>simp only [cond_true];exact .ptr (k g (by simpa [Nat.blt_eq]using e))
   |false=>simp only [cond_false];exact .poison _
 |func f=>exact .fn rfl (by intro i v v' a;simp at a) rfl (by intro i v v' a;simp at a)

end
end Go.Ab

namespace Go.Ab

theorem cls_le{E:Env}(op:Op):cls E op<=5:=by
 unfold cls
 split<;>(try omega)
 . split<;>omega
 . split<;>omega

theorem uU{E:Env}{op:Op}(h:eS op=true):cls E op=4:=by
 unfold eS at h
 split at h
 . rfl
 . cases h
theorem qo{E:Env}{op:Op}(h:cls E op≠4)(ρ:Operand->Value)(a:Hp):jO ρ op a=touch ρ op:=by
 unfold jO
 cases b:eS op with
 |true=>exact absurd (uU b) h
 |false=>rfl
theorem kX{E:Env}{op:Op}(h:cls E op≠3):dK op=false:=by
 cases op<;>(try rfl)
 rename_i c
 obtain⟨a,b⟩:=c
 cases a<;>first|rfl|(exact absurd rfl h)

structure DT(E:Env)(R:Rec)(ops:Array Oper)(q:Nat)(ps:List (Nat×Nat))(M:List Nat)(L:Nat->Loc)(H:Nat->Hp)(T:Nat->Option Nat)(X:Nat->Bool):Prop where
 bef: ∀i,BefOk ops.toList M i
 four: ∀(n:Nat) o,ops[n]? =some o->cls E o.op=4->q.testBit n=true
 owe: ∀(n:Nat) o m (i:Nat) p,ops[n]? =some o->M[n]? =some m->i<n->ops[i]? =some p->m.testBit i=false->Owe E ops.toList o p i n q ps
 step: ∀(i:Nat) o,ops[i]? =some o->rL E R ops.toList q i o (L i) (H i) (L (i+1)) (H (i+1)) (T i) (X i)
 pair: ∀{i j a b:Nat} {o p:Oper},(i,j)∈ps->ops[i]? =some o->ops[j]? =some p->dK o.op=false->dK p.op=false->T i=some a->T j=some b->a≠b
 leave: ∀{i j a:Nat} {o p:Oper},((i,j)∈ps\/(j,i)∈ps)->ops[i]? =some o->ops[j]? =some p->dK o.op=false->dK p.op=true->X j=true->eB E q j p.op=false->T i=some a->(H (j+1)).get a=(H j).get a

def isW(E:Env)(X:Nat->Bool)(q:Nat)(o:Oper)(i:Nat):Prop:=X i=true/\(cls E o.op=2\/((cls E o.op=3\/cls E o.op=5)/\q.testBit i=false))
def isQ(E:Env)(X:Nat->Bool)(q:Nat)(o:Oper)(i:Nat):Prop:=X i=true/\3<=cls E o.op/\q.testBit i=true
def isR(E:Env)(X:Nat->Bool)(o:Oper)(i:Nat):Prop:=X i=false\/cls E o.op<=1

def Down(ops:Array Oper)(S:Nat->Bool):Prop:= ∀i o,ops[i]? =some o->S i=true-> ∀e∈o.after.toList,binds e=true->S e.on=true
def Ready(o:Oper)(S:Nat->Bool):Prop:= ∀e∈o.after.toList,binds e=true->S e.on=true

section
variable{E:Env}{R:Rec}{ops:Array Oper}{q:Nat}{ps:List (Nat×Nat)}{M:List Nat}{L:Nat->Loc}{H:Nat->Hp}{T:Nat->Option Nat}{X:Nat->Bool}(D:DT E R ops q ps M L H T X)
include D

theorem kinds{i:Nat}{o:Oper}(c:ops[i]? =some o):isR E X o i\/isQ E X q o i\/isW E X q o i:=by
 cases a:X i with
 |false=>exact .inl (.inl a)
 | true=>
   have f:=cls_le (E:=E) o.op
   rcases Xh (cls E o.op) 2 with h|h
   . exact .inl (.inr (by omega))
   . by_cases d:cls E o.op=2
     . exact .inr (.inr ⟨a,.inl d⟩)
     . cases b:q.testBit i with
       |true=>exact .inr (.inl ⟨a,by omega,b⟩)
       | false=>
         have g:cls E o.op≠4:=by intro e;have:=D.four i o c e;rw [b]at this;cases this
         exact .inr (.inr ⟨a,.inr ⟨by omega,b⟩⟩)

theorem mr{S:Nat->Bool}(j:Down ops S): ∀(n:Nat) (o:Oper) (m i:Nat),ops[n]? =some o->M[n]? =some m->S n=true->m.testBit i=true->S i=true:=by
 intro n
 induction n using Nat.strongRecOn with
 | _ n k=>
   intro o m i c l p r
   obtain⟨u,g,s,t⟩:=D.bef n o (by rw [Xa];exact c)
   rw [l]at g;cases g
   obtain⟨e,h,a,x⟩:=t i r
   have b:=j n o c p e h a
   rcases x with rfl|⟨m2,d,f⟩
   . exact b
   . have hlt:=s e h a
     have v:n<ops.size:=(Array.getElem?_eq_some_iff.1 c).1
     exact k e.on hlt ops[e.on] m2 i (zM (by omega)) d b f
theorem nj{S:Nat->Bool}(j:Down ops S){n:Nat}{o:Oper}{m i:Nat}(f:ops[n]? =some o)(k:M[n]? =some m)(l:Ready o S)(p:m.testBit i=true):S i=true:=by
 obtain⟨t,g,r,s⟩:=D.bef n o (by rw [Xa];exact f)
 rw [k]at g;cases g
 obtain⟨e,h,a,x⟩:=s i p
 have b:=l e h a
 rcases x with rfl|⟨m2,c,d⟩
 . exact b
 . have hlt:=r e h a
   have u:n<ops.size:=(Array.getElem?_eq_some_iff.1 f).1
   exact mr D j e.on ops[e.on] m2 i (zM (by omega)) c b d
theorem mask{n:Nat}{o:Oper}(a:ops[n]? =some o): ∃m,M[n]? =some m:=by
 obtain⟨b,c,_⟩:=D.bef n o (by rw [Xa];exact a)
 exact⟨b,c⟩

theorem cmp{n i:Nat}{o p:Oper}{m:Nat}(A:ops[n]? =some o)(B:M[n]? =some m)(C:i<n)(F:ops[i]? =some p)
 (h:(isW E X q p i/\(isW E X q o n\/isQ E X q o n))\/(isQ E X q p i/\isW E X q o n/\eS p.op=false)):m.testBit i=true:=by
 cases G:m.testBit i with
 |true=>rfl
 | false=>
   exfalso
   obtain⟨_,z⟩:=D.owe n o m i p A B C F G
   have j: ∀{x y:Oper} {a b:Nat},isW E X q x a->(isW E X q y b\/isQ E X q y b)->cls E x.op≠0/\cls E x.op≠1/\cls E y.op≠0/\cls E y.op≠1:=by
    intro x y a b e s
    obtain⟨_,e⟩:=e
    rcases s with⟨_,s⟩|⟨_,s,_⟩<;>(refine⟨?_,?_,?_,?_⟩<;>omega)
   rcases h with⟨k,r⟩|⟨k,r,t⟩
   . obtain⟨u,f,v,g⟩:=j k r
     rcases z with h|h|⟨h,_⟩|⟨_,h,_⟩|⟨h,_⟩|⟨_,h,_⟩|⟨h,_⟩|⟨a,b,c,d⟩|⟨_,h,_⟩|⟨h,_⟩|⟨I,J,_,w,_⟩
     . exact v h
     . exact u h
     . exact g h
     . exact f h
     . exact g h
     . exact f h
     . exact g h
     . obtain⟨_,e⟩:=k
       rcases e with e|⟨e,l⟩
       . exact b e
       . rw [c e]at l;cases l
     . exact f h
     . exact g h
     . obtain⟨_,e⟩:=k
       omega
   . obtain⟨u,f,v,g⟩:=j r (.inr k)
     rcases z with h|h|⟨h,_⟩|⟨_,h,_⟩|⟨h,_⟩|⟨_,h,_⟩|⟨h,_⟩|⟨a,b,c,d⟩|⟨_,h,_⟩|⟨h,_⟩|⟨I,J,_,w,_⟩
     . exact u h
     . exact v h
     . exact f h
     . exact g h
     . exact f h
     . exact g h
     . exact f h
     . obtain⟨_,e⟩:=r
       rcases e with e|⟨e,l⟩
       . exact a e
       . rw [d e]at l;cases l
     . exact g h
     . exact f h
     . rw [t]at w;cases w

theorem ti{S:Nat->Bool}(i:Down ops S){n:Nat}{o:Oper}(f:ops[n]? =some o)(r:Ready o S)(j:S n=false){t:Tmp}(k:t∈jx ops.toList o):
 ∀(p:Nat) (op:Oper),ops[p]? =some op->op.dst=some t->(p<n↔S p=true):=by
 intro p op b a
 obtain⟨m,l⟩:=mask D f
 obtain⟨g,c⟩:=mask D b
 have s:t∈jx ops.toList op:=by unfold jx;rw [a];simp
 rcases Xk p n with h|h|h
 . refine⟨fun _=>?_,fun _=>h⟩
   cases d:m.testBit p with
   |true=>exact nj D i f l r d
   | false=>
     exfalso
     obtain⟨e,_⟩:=D.owe n o m p op f l h b d
     simp only [q7,a,Xb,Xl]at e
     have:=e.2
     rw [(l9 t _).2 k]at this;cases this
 . subst h
   exact⟨fun h=>absurd h (Nat.lt_irrefl _),fun h=>by rw [j]at h;cases h⟩
 . refine⟨fun u=>absurd u (by omega),fun v=>?_⟩
   exfalso
   cases d:g.testBit n with
   |true=>have:=mr D i p op g n b c v d;rw [j]at this;cases this
   | false=>
     obtain⟨e,_⟩:=D.owe p op g n o b c h f d
     simp only [q7,a,Xb,Xl]at e
     have:=e.1
     rw [(l9 t _).2 k]at this;cases this
end

section
variable{E:Env}{P:Program}(ok:EOk E P){R:Rec}(hc:ib E P R.call)(hcode:ji P R.code)
variable{ops:Array Oper}{q:Nat}{ps:List (Nat×Nat)}{M:List Nat}{L:Nat->Loc}{H:Nat->Hp}{T:Nat->Option Nat}{X:Nat->Bool}(D:DT E R ops q ps M L H T X)

def oD(n:Nat)(mu0:Mu)(d:World)(L:Nat->Loc)(H:Nat->Hp)(i:Nat):Prop:=
 ∃a c b,aF a (H i) c/\kT a/\iO a (L i).regs n b/\Ext mu0 (H 0) d a (H i) c

structure Turn(ops:Array Oper)(E:Env)(X:Nat->Bool)(q:Nat)(H:Nat->Hp)(T:Nat->Option Nat)(i:Nat)(o:Oper):Prop where
 n:(H i).n<=(H (i+1)).n
 quiet:isQ E X q o i-> ∀b,b<(H i).n->(H (i+1)).get b=(H i).get b
 still:isR E X o i->H (i+1)=H i

theorem z9{E:Env}{R:Rec}{ρ:Operand->Value}{o:Oper}{h c:Hp}{v:Value}(d:cls E o.op<=1){a:Bool}(hq:a=false)(b:cJ E R ρ a o h=some (v,c)):c=h:=by
 subst hq
 obtain⟨f,e,_,_⟩:=yk (E:=E) (op:=o.op) (ρ:=ρ) (by omega)
 simp only [cJ,cond_false]at b
 rw [e h]at b
 cases hf:f h with
 |none=>rw [hf]at b;cases b
 |some u=>rw [hf]at b;cases b;rfl
theorem uX{E:Env}{q i:Nat}{op:Op}(a:cls E op<=1):eB E q i op=false:=by
 unfold eB
 have:XH 3 (cls E op)=false:=by
  cases h:XH 3 (cls E op)with
  |false=>rfl
  |true=>have:=XC h;omega
 rw [this];simp
theorem pW{E:Env}{q i:Nat}{op:Op}(a:3<=cls E op)(b:q.testBit i=true):eB E q i op=true:=by
 unfold eB
 rw [b,XD a];rfl

include ok hc hcode D in
theorem shadow{n:Nat}{mu0:Mu}{u:World}: ∀(i:Nat),i<=ops.size->oD n mu0 u L H 0->oD n mu0 u L H i/\(∀j o,j<i->ops[j]? =some o->Turn ops E X q H T j o)
 |0,_,h0=>⟨h0,fun j o J=>absurd J (by omega)⟩
 | i + 1,hi,h0=>by
   obtain⟨⟨w,V,a,y,s,g,K⟩,W⟩:=shadow i (by omega) h0
   have z:ops[i]? =some ops[i]:=zM (by omega)
   have m:=D.step i ops[i] z
   suffices N:oD n mu0 u L H (i+1)/\Turn ops E X q H T i ops[i] by
    refine⟨N.1,fun j o J e=>?_⟩
    by_cases A:j=i
    . subst A;rw [z]at e;cases e;exact N.2
    . exact W j o (by omega) e
   generalize O:L (i+1)=L1 at m
   generalize c:H (i+1)=H1 at m
   generalize hT:T i=T1 at m
   generalize Q:X i=X1 at m
   cases m with
   | skip S=>
     refine⟨⟨w,V,eY a ops[i].dst undef,by rw [c];exact y,s,?_,by rw [c];exact K⟩,⟨by rw [c];exact Xc _,(fun⟨h,_⟩=>by rw [Q]at h;cases h),fun _=>c⟩⟩
     rw [O]
     have:=rh g ops[i].dst (v:=.tuple #[]) (v':=undef) (.tuple rfl (by intro i v v' B;simp at B))
     cases p:ops[i].dst with
     |none=>rw [p]at this;exact this
     |some d=>rw [p]at this;exact this
   | exec S r=>
     rename_i v
     have Y:=vS g S
     have C:=fun x=>uH (l:=L i) g.sized g.size (tmpsOf ops[i].op.operands.toList) (fun t _ v B=>g.get t v B) s x
     obtain⟨G,Z,v',k1,I,k3,k4,_⟩:=oN ok hc hcode y s C (F:=⟨0,.normal,none⟩) (dfs:=[]) (k:=[]) (cs:=[]) (rest:=[]) z Y r
     have U:=I.le y
     refine⟨⟨G,Z,eY a ops[i].dst v',by rw [c];exact k1,s.mono U,?_,by rw [c];exact Ext.trans K I⟩,⟨by rw [c];exact I.n,?_,?_⟩⟩
     . rw [O]
       have:=rh (g.mono U) ops[i].dst k3
       cases p:ops[i].dst with
       |none=>rw [p]at this;exact this
       |some d=>rw [p]at this;exact this
     . intro⟨_,h3,hb⟩ b hb'
       rw [c]
       exact k4 (pW h3 hb) b hb'
     . intro f
       rcases f with f|f
       . rw [Q]at f;cases f
       . rw [c];exact z9 f (uX f) r
end
end Go.Ab

namespace Go.Ab

theorem w_plain{E:Env}{op:Op}{ρ:Operand->Value}{h l:Hp}{i:di}(g:cls E op=2\/cls E op=5)(d:aop E ρ h op=some (i,l)):(∃v,i=.val v)\/i=.skip:=by
 have m: ∀{r:Option (Hp×Value)},cP r=some (i,l)->(∃v,i=.val v)\/i=.skip:=by
  intro r j
  cases r with
  |none=>cases j
  |some q=>obtain⟨a,b⟩:=q;cases j;exact .inl ⟨b,rfl⟩
 have k: ∀{r:Option Hp},fg r=some (i,l)->(∃v,i=.val v)\/i=.skip:=by
  intro r j
  cases r with
  |none=>cases j
  |some q=>cases j;exact .inr rfl
 cases op
 case store=>exact k d
 case mapUpdate=>exact k d
 case insert=>exact k d
 case mapEntry=>exact m d
 case entryStore=>exact k d
 case call c=>
  cases e:c.callee with
  |value f=>simp [cls,e]at g
  |invoke r n=>simp [cls,e]at g
  | builtin o=>
    cases o<;>(try (simp [cls,e]at g;done))
    case append=>
     simp only [aop,e]at d
     split at d
     next=>exact m d
     next=>cases d
    case copy=>
     simp only [aop,e]at d
     split at d
     next=>exact m d
     next=>cases d
    case delete=>
     simp only [aop,e]at d
     split at d
     next=>
      split at d
      next=>cases d
      next=>cases d;exact .inl ⟨_,rfl⟩
     next=>cases d
 case convert p s x=>
  exfalso
  unfold cls at g
  simp only []at g
  split at g<;>omega
 all_goals first
  |(exfalso;simp [cls]at g;done)
  |(exfalso;unfold cls at g;simp only []at g;split at g<;>simp at g;done)
theorem stepD_w{E:Env}{R:Rec}{ρ:Operand->Value}{o:Oper}{h d:Hp}{v:Value}(b:cls E o.op=2\/cls E o.op=5)(a:cJ E R ρ false o h=some (v,d)): ∃e,aop E ρ h o.op=some (e,d):=by
 simp only [cJ,cond_false]at a
 cases c:aop E ρ h o.op with
 |none=>rw [c]at a;cases a
 | some p=>
   obtain⟨e,f⟩:=p
   rw [c]at a
   rcases w_plain b c with⟨u,rfl⟩|rfl
   . cases a;exact⟨_,rfl⟩
   . cases a;exact⟨_,rfl⟩
theorem wrapR_inj{h:Hp}{a b:Option Value}(e:ce h a=ce h b):a=b:=by
 cases a<;>cases b<;>simp [ce]at e⊢
 exact e

section
variable{E:Env}{R:Rec}{ops:Array Oper}{q:Nat}{ps:List (Nat×Nat)}{M:List Nat}{L:Nat->Loc}{H:Nat->Hp}{T:Nat->Option Nat}{X:Nat->Bool}(D:DT E R ops q ps M L H T X)

theorem uf{i:Nat}{o:Oper}(a:isW E X q o i):eB E q i o.op=false:=by
 unfold eB
 rcases a.2 with h|⟨_,h⟩
 . rw [h,show XH 3 2=false from rfl];simp
 . rw [h];simp

theorem ep (dk: ∀j o,j<ops.size->ops[j]? =some o->Turn ops E X q H T j o) {i j:Nat} (a:i<=j) (c:j<=ops.size):(H i).n<=(H j).n:=by
 induction j with
 | zero => have:i=0:=by omega
           subst this;exact Xc _
 | succ j b=>
   by_cases e:i=j+1
   . subst e;exact Xc _
   . exact Xn (b (by omega) (by omega)) (dk j ops[j] (by omega) (zM (by omega))).n

theorem walk_eq{α:Type}(b:Nat->α){a:Nat}: ∀(d:Nat),(∀j,a<=j->j<a+d->b (j+1)=b j)->b (a+d)=b a
 |0,_=>rfl
 | d+1,h=>by
   have c:=h (a+d) (by omega) (by omega)
   have e:=walk_eq b d (fun j f g=>h j f (by omega))
   rw [<-e,<-c];rfl

include D in
theorem w_leaves(u: ∀j,j<=ops.size->(H j).t.Sized (H j).n){p j:Nat}{o s:Oper}(K:ops[p]? =some o)(r:ops[j]? =some s)(N:isW E X q s j)(Y:cls E o.op<=1){ρ:Operand->Value}(Q:T p=touch ρ o.op)
 (z:(p<j/\Owe E ops.toList s o p j q ps)\/(j<p/\Owe E ops.toList o s j p q ps)) (hlt: ∀b,touch ρ o.op=some b->b<(H j).n)
 {f:Hp->Option Value} (f1: ∀h,aop E ρ h o.op=ce h (f h)) (f2:cls E o.op=0-> ∀h O,f h=f O) (Z: ∀h O,(∀b,touch ρ o.op=some b->O.get b=h.get b)->f h=f O):
 f (H (j+1))=f (H j):=by
 have hp:=(Array.getElem?_eq_some_iff.1 K).1
 have ad:=(Array.getElem?_eq_some_iff.1 r).1
 by_cases h0:cls E o.op=0
 . exact f2 h0 _ _
 have h1:cls E o.op=1:=by omega
 -- what the writer's step is
 have A:=D.step j s r
 generalize hL:L (j+1)=L1 at A
 generalize hH:H (j+1)=S at A
 generalize B:T j=T1 at A
 generalize hX:X j=X1 at A
 cases A with
 |skip hg=>exact absurd N.1 (by rw [hX];simp)
 | exec hg v=>
   rw [uf N]at v
   have g:((p,j)∈ps\/(j,p)∈ps)->(cls E s.op=2\/cls E s.op=5)->f S=f (H j):=by
    intro w C
    obtain⟨nx,P⟩:=stepD_w C v
    refine(Z _ _ fun b F=>?_).symm
    refine w_only (u j (by omega)) C P b (hlt b F) ?_
    intro e
    rcases w with w|w
    . exact D.pair w K r (kX (E:=E) (by omega)) (kX (E:=E) (by omega)) (Q.trans F) ((B.trans (qo (E:=E) (by omega) _ _)).trans e) rfl
    . exact D.pair w r K (kX (E:=E) (by omega)) (kX (E:=E) (by omega)) ((B.trans (qo (E:=E) (by omega) _ _)).trans e) (Q.trans F) rfl
   have n:((p,j)∈ps\/(j,p)∈ps)->dK s.op=true->f S=f (H j):=by
    intro w x
    refine(Z _ _ fun b F=>?_).symm
    rw [<-hH]
    exact D.leave w K r (kX (E:=E) (by omega)) x hX (uf N) (Q.trans F)
   have l:jq s.op o.op=true->f S=f (H j):=by
    intro hle
    unfold jq at hle
    split at hle
    next t m k t' m' k' U e1 e2=>
     simp only [Xb,Xl]at hle
     have V:t=t':=zO hle.2
     have W:U=false:=hle.1
     subst V
     subst W
     obtain⟨nx,P⟩:=stepD_w (.inl (by rw [e1];rfl)) v
     have hf: ∀h,f h=dr E h t (ρ m') (ρ k') false:=by
      intro h
      have:=f1 h
      rw [e2]at this
      exact wrapR_inj this.symm
     rw [e1]at P
     rw [hf,hf]
     exact look_ent P _ _
    next=>cases hle
   have G:=N.2
   rcases z with⟨I,z⟩|⟨I,z⟩
   . rcases z.2 with h|h|⟨h,_⟩|⟨h,_,i⟩|⟨h,_⟩|⟨h,_,i⟩|⟨h,_⟩|⟨a,b,c,d⟩|⟨_,_,x,i⟩|⟨h,_,x,i⟩|⟨_,h,_⟩
     . omega
     . omega
     . omega
     . rcases i with i|i
       . exact l i
       . exact g (.inl i) (.inl h)
     . omega
     . exact g (.inl i) (.inr h)
     . omega
     . rcases G with y|⟨y,J⟩
       . exact absurd y a
       . rw [d y]at J;cases J
     . exact n (.inl i) x
     . omega
     . omega
   . rcases z.2 with h|h|⟨_,h⟩|⟨h,_⟩|⟨_,h,i⟩|⟨h,_⟩|⟨_,h,i⟩|⟨a,b,c,d⟩|⟨_,h,x,i⟩|⟨_,_,x,i⟩|⟨h,_⟩
     . omega
     . omega
     . omega
     . omega
     . rcases i with i|i
       . exact l i
       . exact g (.inr i) (.inl h)
     . omega
     . exact g (.inr i) (.inr h)
     . rcases G with y|⟨y,J⟩
       . exact absurd y b
       . rw [c y]at J;cases J
     . omega
     . exact n (.inr i) x
     . omega
end
end Go.Ab

namespace Go.Ab

structure WExt(mu0:Mu)(h0:Hp)(w0:World)(mu:Mu)(w:World):Prop where
 old: ∀b,b<h0.n->mu b=mu0 b\/(mu0 b≠ .none/\mu b=.dead)
 fresh: ∀b c base top,h0.n<=b->mu b=.blk c base top->w0.heap.size<=c\/ ∃b0 base0 top0,b0<h0.n/\mu0 b0=.blk c base0 top0/\mu b0=.dead
 frame: ∀c,c<w0.heap.size->(∀b base top,mu0 b≠ .blk c base top)->w.heap[c]? =w0.heap[c]?
 ro: ∀b c base top t sz el,mu0 b=.blk c base top->h0.get b=some (.cells t sz el 0)->w.heap[c]? =w0.heap[c]? /\mu b=mu0 b
 wsize:w0.heap.size<=w.heap.size
 os:w.os=w0.os
 tape:w.tape=w0.tape
 output:w.output=w0.output

theorem WExt.refl{mu:Mu}{h:Hp}{w:World}(d:aF mu h w):WExt mu h w mu w:=
 ⟨fun _ _=>.inl rfl,fun b c a e g f=>absurd (d.lt b (by rw [f];simp)) (by omega),fun _ _ _=>rfl,fun _ _ _ _ _ _ _ _ _=>⟨rfl,rfl⟩,Xc _,rfl,rfl,rfl⟩

theorem WExt.step{mu0 mu r j:Mu}{h0 o F:Hp}{A w w':World}(W:WExt mu0 h0 A mu w)(H: ∀b,mu0 b≠ .none->b<h0.n)(X:h0.n<=o.n)(e:Ext (cut mu o.n) o w r F w')
 (I: ∀b c base top t u el,mu0 b=.blk c base top->h0.get b=some (.cells t u el 0)->o.get b=some (.cells t u el 0)) (k: ∀b,b<F.n->j b=r b) (J: ∀b,F.n<=b->j b=mu b):WExt mu0 h0 A j w':=by
 have Y:=e.n
 have l: ∀g,g<h0.n->mu g=.dead->j g=.dead:=by
  intro g B R
  rw [k g (by omega)]
  rcases e.old g (by omega)with x|⟨_,x⟩
  . rw [x,dR (by omega)];exact R
  . exact x
 have K: ∀c,c<A.heap.size->(∀b base top,mu0 b≠ .blk c base top)-> ∀b base top,cut mu o.n b≠ .blk c base top:=by
  intro c L m b base top h
  by_cases s:b<o.n
  . rw [dR s]at h
    by_cases B:b<h0.n
    . rcases W.old b B with x|⟨_,x⟩
      . exact m b base top (by rw [<-x];exact h)
      . rw [x]at h;cases h
    . rcases W.fresh b c base top (by omega) h with x|⟨g,a,d,_,x,_⟩
      . omega
      . exact m g a d x
  . rw [mY (by omega)]at h;cases h
 refine⟨?_,?_,?_,?_,Xn W.wsize e.wsize,e.os.trans W.os,e.tape.trans W.tape,e.output.trans W.output⟩
 . intro b s
   rw [k b (by omega)]
   rcases e.old b (by omega)with x|⟨x,y⟩
   . rw [x,dR (by omega)];exact W.old b s
   . rw [dR (by omega)]at x
     rcases W.old b s with z|⟨z,_⟩
     . exact .inr ⟨by rw [<-z];exact x,y⟩
     . exact .inr ⟨z,y⟩
 . intro b c base top s h
   have M: ∀n f i,mu n=.blk c f i->n<o.n->r n=.dead->A.heap.size<=c\/ ∃g a d,g<h0.n/\mu0 g=.blk c a d/\j g=.dead:=by
    intro n f i G Z S
    by_cases C:n<h0.n
    . rcases W.old n C with x|⟨_,x⟩
      . exact .inr ⟨n,f,i,C,by rw [<-x];exact G,by rw [k n (by omega)];exact S⟩
      . rw [x]at G;cases G
    . rcases W.fresh n c f i (by omega) G with x|⟨g,a,d,p,v,D⟩
      . exact .inl x
      . exact .inr ⟨g,a,d,p,v,l g p D⟩
   have q:mu b=.blk c base top->A.heap.size<=c\/ ∃g a d,g<h0.n/\mu0 g=.blk c a d/\j g=.dead:=by
    intro N
    rcases W.fresh b c base top s N with x|⟨g,a,d,p,v,D⟩
    . exact .inl x
    . exact .inr ⟨g,a,d,p,v,l g p D⟩
   by_cases O:b<F.n
   . rw [k b O]at h
     by_cases E:b<o.n
     . rcases e.old b E with x|⟨_,x⟩
       . rw [x,dR E]at h;exact q h
       . rw [x]at h;cases h
     . rcases e.fresh b c base top (by omega) h with x|⟨n,f,i,p,v,D⟩
       . exact .inl (Xn W.wsize x)
       . rw [dR p]at v
         exact M n f i v p D
   . exact q (by rw [<-J b (by omega)];exact h)
 . intro c L m
   rw [<-W.frame c L m]
   exact e.frame c (by have:=W.wsize;omega) (K c L m)
 . intro b c base top t u el h P
   have s:=H b (by rw [h];simp)
   obtain⟨T,Q⟩:=W.ro b c base top t u el h P
   obtain⟨U,_,V⟩:=e.ro b c base top t u el (by rw [dR (by omega),Q];exact h) (I b c base top t u el h P)
   exact⟨U.trans T,by rw [k b (by omega),V,dR (by omega)];exact Q⟩
end Go.Ab

namespace Go.Ab

section
variable(E:Env)(ops:Array Oper)(q:Nat)(L:Nat->Loc)(H:Nat->Hp)(X:Nat->Bool)(nr:Nat)(mu0:Mu)(w0:World)

def AtC(S:Nat->Bool)(c:Nat):Prop:=c<=ops.size/\(c=ops.size\/ ∃o,ops[c]? =some o/\isW E X q o c/\S c=false)/\ ∀(i:Nat) o,i<c->ops[i]? =some o->isW E X q o i->S i=true
def RegsAt(S:Nat->Bool)(mu:Mu)(tmps:Array Value):Prop:= ∀(i:Nat),i<=ops.size-> ∀(t:Tmp) v,(∀(p:Nat) (o:Oper),ops[p]? =some o->o.dst=some t->(p<i↔S p=true))->
 (L i).regs.get t=some v-> ∃a,tmps[t]? =some a/\aq mu v a
structure Inv(S:Nat->Bool)(mu:Mu)(w:World)(tmps:Array Value):Prop where
 c: ∃c,AtC E ops q X S c/\aF mu (H c) w
 glob:kT mu
 non: ∀p,p<ops.size->S p=false-> ∀b,(H p).n<=b->b<(H (p+1)).n->mu b=.none
 size:tmps.size=nr
 regs:RegsAt ops L S mu tmps
 ext:WExt mu0 (H 0) w0 mu w
 cov: ∀p,p<ops.size->S p=true-> ∀b,(H p).n<=b->b<(H (p+1)).n->mu b≠ .none
end

def mj(S:Nat->Bool)(p:Nat):Nat->Bool:=fun i=>if i=p then true else S i
theorem gK(S:Nat->Bool)(p:Nat):mj S p p=true:=by simp [mj]
theorem bN(S:Nat->Bool){p i:Nat}(h:i≠p):mj S p i=S i:=by simp [mj,h]

section
variable{E:Env}{R:Rec}{ops:Array Oper}{q:Nat}{ps:List (Nat×Nat)}{M:List Nat}{L:Nat->Loc}{H:Nat->Hp}{T:Nat->Option Nat}{X:Nat->Bool}(D:DT E R ops q ps M L H T X)

theorem pP{l:Loc}{d:Option Tmp}{v:Value}{t:Tmp}(h:d≠some t):(l.put d v).regs.get t=l.regs.get t:=by
 cases d with
 |none=>rfl
 | some d=>
   show(l.regs.set d v).get t=_
   rw [Tr.get_set,if_neg (fun e=>h (by rw [e.1]))]
include D in
theorem tE{j:Nat}{o:Oper}(b:ops[j]? =some o){t:Tmp}(h:o.dst≠some t):(L (j+1)).regs.get t=(L j).regs.get t:=by
 have a:=D.step j o b
 generalize L (j+1)=e at a
 generalize H (j+1)=f at a
 generalize T j=g at a
 generalize X j=i at a
 cases a with
 |skip c=>exact pP h
 |exec c d=>exact pP h

include D in
theorem ns{S:Nat->Bool}{mu k:Mu}{tmps:Array Value}{F:Nat}(J:Down ops S){p:Nat}{o:Oper}(r:ops[p]? =some o)(K:Ready o S)(N:S p=false)(O:Le mu k)(s:tmps.size=F)(w:(L p).regs.Sized F)
 {v v':Value} (P:aq k v v') (Q:L (p+1)=(L p).put o.dst v) (l:RegsAt ops L S mu tmps):RegsAt ops L (mj S p) k (eY tmps o.dst v'):=by
 intro i U t u b x
 by_cases n:o.dst=some t
 . have V:p<i:=(b p o r n).2 (gK S p)
   have h:t∈jx ops.toList o:=by unfold jx;rw [n];simp
   have y:=ti D J r K N h
   have m:(L i).regs.get t=(L (p+1)).regs.get t:=by
    have:=walk_eq (fun j=>(L j).regs.get t) (a:=p+1) (i-(p+1)) (fun j z G=>by
     have W:j<i:=by omega
     have c:ops[j]? =some ops[j]:=zM (by omega)
     by_cases f:ops[j].dst=some t
     . have I:=(b j _ c f).1 W
       rw [bN S (by omega)]at I
       have:=(y j _ c f).2 I
       omega
     . exact tE D c f)
    rw [show p+1+(i-(p+1))=i by omega]at this
    exact this
   rw [m,Q,n]at x
   have g:((L p).regs.set t v).get t=some u:=x
   rw [Tr.get_set]at g
   cases A:(L p).regs.get t with
   |none=>rw [A]at g;simp at g
   | some u0=>
     rw [A]at g
     simp at g
     subst g
     have:t<tmps.size:=by rw [s];exact(w t).1 (by rw [A];rfl)
     rw [n]
     exact⟨v',by simp [eY,this],P⟩
 . obtain⟨Y,z,G⟩:=l i U t u (fun j Z c f=>by
    have B:j≠p:=by intro e;subst e;rw [r]at c;cases c;exact n f
    have:=b j Z c f
    rwa [bN S B]at this) x
   refine⟨Y,?_,G.mono O⟩
   cases C:o.dst with
   |none=>exact z
   | some d=>
     show(tmps.setIfInBounds d v')[t]? =_
     rw [Xt,if_neg (by intro e;subst e;exact n C)]
     exact z

theorem mZ(tmps:Array Value)(d:Option Tmp)(v:Value):(eY tmps d v).size=tmps.size:=by cases d<;>simp [eY]
end
end Go.Ab

namespace Go.Ab

theorem next_W{E:Env}{ops:Array Oper}{q:Nat}{X:Nat->Bool}: ∀(d c:Nat),c+d=ops.size-> ∃a,c<=a/\a<=ops.size/\(a=ops.size\/ ∃o,ops[a]? =some o/\isW E X q o a)/\ ∀i o,c<=i->i<a->ops[i]? =some o-> ¬isW E X q o i
 |0,c,h=>⟨c,Xc _,by omega,.inl (by omega),fun i o k e=>by omega⟩
 | d +1,c,h=>by
   obtain⟨f,l⟩: ∃f,ops[c]? =some f:=⟨_,zM (xs:=ops) (i:=c) (by omega)⟩
   by_cases m:isW E X q f c
   . exact⟨c,Xc _,by omega,.inr ⟨_,l,m⟩,fun i o k e=>by omega⟩
   . obtain⟨a,k,e,n,p⟩:=next_W (E:=E) (ops:=ops) (q:=q) (X:=X) d (c+1) (by omega)
     refine⟨a,by omega,e,n,fun i o r g b=>?_⟩
     by_cases j:i=c
     . subst j;rw [l]at b;cases b;exact m
     . exact p i o (by omega) g b

section
variable{E:Env}{P:Program}(ok:EOk E P){R:Rec}(hc:ib E P R.call)(hcode:ji P R.code)
variable{ops:Array Oper}{q:Nat}{ps:List (Nat×Nat)}{M:List Nat}{L:Nat->Loc}{H:Nat->Hp}{T:Nat->Option Nat}{X:Nat->Bool}(D:DT E R ops q ps M L H T X)
variable{nr:Nat}{mu0:Mu}{w0:World}

theorem stand(dk: ∀j o,j<ops.size->ops[j]? =some o->Turn ops E X q H T j o){a c:Nat}(i:a<=c)(k:c<=ops.size)
 (e: ∀j o,a<=j->j<c->ops[j]? =some o->isR E X o j\/isQ E X q o j) {b:Nat} (l:b<(H a).n):(H c).get b=(H a).get b:=by
 have:=walk_eq (fun j=>(H j).get b) (a:=a) (c-a) (fun j f m=>by
  have d:ops[j]? =some ops[j]:=zM (by omega)
  have g:=dk j _ (by omega) d
  rcases e j _ f (by omega) d with h|h
  . show(H (j+1)).get b=(H j).get b
    rw [g.still h]
  . exact g.quiet h b (Xi l (ep dk f (by omega))))
 rw [show a+(c-a)=c by omega]at this
 exact this

include D in
theorem after_c{S:Nat->Bool}(j:Down ops S){c:Nat}(k:AtC E ops q X S c){i:Nat}{o:Oper}(s:c<=i)(b:ops[i]? =some o)(l:isW E X q o i\/isQ E X q o i)(n:isQ E X q o i->c≠i):S i=false:=by
 have p:=(Array.getElem?_eq_some_iff.1 b).1
 rcases k.2.1 with e|⟨t,d,f,a⟩
 . omega
 . by_cases g:c=i
   . subst g;exact a
   . cases r:S i with
     |false=>rfl
     | true=>
       obtain⟨m,h⟩:=mask D b
       have:=mr D j i o m c b h r (cmp D b h (by omega) d (.inl ⟨f,l⟩))
       rw [a]at this;cases this

include D in
theorem read_at(dk: ∀j o,j<ops.size->ops[j]? =some o->Turn ops E X q H T j o)(l: ∀j,j<=ops.size->(H j).t.Sized (H j).n){S:Nat->Bool}(z:Down ops S){c:Nat}(A:AtC E ops q X S c)
 {p:Nat} {o:Oper} (n:ops[p]? =some o) (K:Ready o S) (N:S p=false) (s:cls E o.op<=1) {ρ:Operand->Value} (O:T p=touch ρ o.op)
 (t: ∀b,touch ρ o.op=some b->b<(H p).n) (u: ∀b,touch ρ o.op=some b->b<(H c).n)
 {f:Hp->Option Value} (Q: ∀h,aop E ρ h o.op=ce h (f h)) (U:cls E o.op=0-> ∀h g,f h=f g) (F: ∀h g,(∀b,touch ρ o.op=some b->g.get b=h.get b)->f h=f g):
 f (H c)=f (H p):=by
 have V:=(Array.getElem?_eq_some_iff.1 n).1
 have W:=A.1
 have v: ∀j,j<ops.size->(∀b,touch ρ o.op=some b->b<(H j).n)->(∀w,ops[j]? =some w->isW E X q w j->(p<j/\S j=true)\/(j<p/\S j=false))->f (H (j+1))=f (H j):=by
  intro j G hlt B
  have d:ops[j]? =some ops[j]:=zM G
  have I:=dk j _ G d
  rcases kinds D d with h|h|h
  . rw [I.still h]
  . exact(F _ _ fun b k=>I.quiet h b (hlt b k)).symm
  . refine w_leaves D l n d h s O ?_ hlt Q U F
    rcases B _ d h with⟨i,g⟩|⟨i,g⟩
    . obtain⟨m,y⟩:=mask D d
      refine .inl ⟨i,D.owe j _ m p o d y i n ?_⟩
      cases k:m.testBit p with
      |false=>rfl
      |true=>have:=mr D z j _ m p d y g k;rw [N]at this;cases this
    . obtain⟨m,y⟩:=mask D n
      refine .inr ⟨i,D.owe p o m j _ n y i d ?_⟩
      cases k:m.testBit j with
      |false=>rfl
      |true=>have:=nj D z n y K k;rw [g]at this;cases this
 rcases Nat.le_total p c with C|C
 . have:=walk_eq (fun j=>f (H j)) (a:=p) (c-p) (fun j i g=>v j (by omega) (fun b k=>Xi (t b k) (ep dk i (by omega))) (fun w d r=>by
    have Y:p≠j:=by intro e;subst e;rw [n]at d;cases d;rcases r.2 with x|⟨x,_⟩<;>omega
    exact .inl ⟨by omega,A.2.2 j w (by omega) d r⟩))
   rw [show p+(c-p)=c by omega]at this
   exact this
 . have:=walk_eq (fun j=>f (H j)) (a:=c) (p-c) (fun j i g=>v j (by omega) (fun b k=>Xi (u b k) (ep dk i (by omega))) (fun w d r=>
    .inr ⟨by omega,after_c D z A i d (.inl r) (fun J=>by
     intro _;have:=r.2;have:=J.2.2;rcases r.2 with x|⟨_,x⟩
     . have:=J.2.1;omega
     . rw [x]at this;cases this)⟩))
   rw [show c+(p-c)=p by omega]at this
   exact this.symm
end
end Go.Ab

namespace Go.Ab
section
variable{E:Env}{P:Program}(ok:EOk E P){R:Rec}(hc:ib E P R.call)(hcode:ji P R.code)
variable{ops:Array Oper}{q:Nat}{ps:List (Nat×Nat)}{M:List Nat}{L:Nat->Loc}{H:Nat->Hp}{T:Nat->Option Nat}{X:Nat->Bool}(D:DT E R ops q ps M L H T X)
variable{nr:Nat}{mu0:Mu}{w0:World}

theorem yy{mu:Mu}{n:Nat}(h: ∀b,mu b≠ .none->b<n):cut mu n=mu:=by
 funext b
 by_cases a:b<n
 . exact dR a
 . rw [mY (by omega)]
   cases d:mu b with
   |none=>rfl
   |dead=>exact absurd (h b (by rw [d];simp)) a
   |blk c e f=>exact absurd (h b (by rw [d];simp)) a

theorem rl{S:Nat->Bool}{c p:Nat}(h:AtC E ops q X S c)(f:p≠c):AtC E ops q X (mj S p) c:=by
 refine⟨h.1,h.2.1.imp id fun⟨o,a,b,e⟩=>⟨o,a,b,by rw [bN S (Ne.symm f)];exact e⟩,fun i o g j k=>?_⟩
 by_cases d:i=p
 . subst d;exact gK S i
 . rw [bN S d];exact h.2.2 i o g j k

theorem uq{mu:Mu}{h e:Hp}{w:World}(d:aF mu h w)(k:e.t.Sized e.n)(l:h.n<=e.n)(j: ∀b,b<h.n->e.get b=h.get b):aF mu e w:=by
 refine⟨k,fun b c f g a=>?_,fun b a=>?_,d.inj,fun b a=>Xi (d.lt b a) l⟩
 . obtain⟨x,o,m,i,n⟩:=d.blk b c f g a
   exact⟨x,o,by rw [j b (d.lt b (by rw [a];simp))];exact m,i,n⟩
 . rw [j b (d.lt b (by rw [a];simp))];exact d.dead b a

theorem iO.cut{mu d:Mu}{n:Nat}(g: ∀b,d b≠ .none->b<n){t:Tr Value}{m:Nat}{ts e:Array Value}(h:iO mu t m ts)(j:iO d t m e):iO (cut mu n) t m ts:=by
 refine⟨h.size,h.sized,fun i v f=>?_⟩
 obtain⟨k,a,b⟩:=h.get i v f
 obtain⟨l,_,c⟩:=j.get i v f
 exact⟨k,a,aq.cut g c b⟩
theorem kU.cut{mu f:Mu}{n:Nat}(m: ∀b,f b≠ .none->b<n){x:Blk}{base top d g:Nat}{o B:Obj}(h:kU mu x base top o)(p:kU f x d g B):kU (cut mu n) x base top o:=by
 cases x with
 |dead=>exact h
 | cells t Y el Z=>
   obtain⟨C,s,F,e,r⟩:=h
   obtain⟨G,I,J,A,j⟩:=p
   refine⟨C,s,F,e,r.whole,r.fits,r.sized,fun i v k=>?_,r.free⟩
   obtain⟨u,a,b⟩:=r.get i v k
   obtain⟨K,_,c⟩:=j.get i v k
   exact⟨u,a,aq.cut m c b⟩
 | map es c=>
   obtain⟨w,y,e,r⟩:=h
   obtain⟨_,N,A,j⟩:=p
   refine⟨w,y,e,r.1,fun i v u k z=>?_⟩
   obtain⟨O,Q,S,U⟩:=r.2 i v u k z
   obtain⟨K,b1,V⟩:=j.get k
   exact⟨O,Q,aq.cut m V.2.2.1 S,U⟩
 | loop l=>
   obtain⟨w,W,e,r⟩:=h
   obtain⟨_,lT,A,j⟩:=p
   exact⟨w,W,e,r.fn,r.regs.cut m j.regs,r.params,r.assign,r.body,r.st,r.pending⟩
 |dfr=>exact h

def glue(a mu:Mu)(n:Nat):Mu:=fun b=>if b<n then a b else mu b
theorem jr{a mu:Mu}{n b:Nat}(h:b<n):glue a mu n b=a b:=by simp [glue,h]
theorem jU{a mu:Mu}{n b:Nat}(h:n<=b):glue a mu n b=mu b:=by simp [glue,Nat.not_lt.2 h]

theorem glue_rel {mu e:Mu} {hc t f:Hp} {w A:World} (n:aF mu hc w) (z:aF e f A) (k2:Ext (cut mu t.n) t w e f A)
 (B: ∀b,t.n<=b->b<f.n->mu b=.none) (U:f.n<=hc.n) (s: ∀b,b<f.n->hc.get b=f.get b):
 aF (glue e mu f.n) hc A/\Le mu (glue e mu f.n)/\Le e (glue e mu f.n):=by
 have O:=k2.n
 have J:Le mu (glue e mu f.n):=by
  intro b u
  by_cases h:b<f.n
  . rw [jr h]
    by_cases p:b<t.n
    . rcases k2.old b p with x|⟨_,x⟩
      . left;rw [x,dR p]
      . right;exact x
    . exact absurd (B b (by omega) h) u
  . rw [jU (by omega)];exact .inl rfl
 have v:Le e (glue e mu f.n):=by
  intro b u
  left
  exact jr (z.lt b u)
 refine⟨⟨n.sized,fun b c a g k=>?_,fun b k=>?_,?_,fun b k=>?_⟩,J,v⟩
 . by_cases h:b<f.n
   . rw [jr h]at k
     obtain⟨x,o,C,F,G⟩:=z.blk b c a g k
     exact⟨x,o,by rw [s b h];exact C,F,G.mono v⟩
   . rw [jU (by omega)]at k
     obtain⟨x,o,C,F,G⟩:=n.blk b c a g k
     refine⟨x,o,C,?_,G.mono J⟩
     rw [k2.frame c (n.clt k) (fun j d i r=>?_)]
     . exact F
     . by_cases p:j<t.n
       . rw [dR p]at r
         have:=n.inj b j c a g d i k r
         omega
       . rw [mY (by omega)]at r;cases r
 . by_cases h:b<f.n
   . rw [jr h]at k;rw [s b h];exact z.dead b k
   . rw [jU (by omega)]at k;exact n.dead b k
 . have y: ∀b j c a g d i,b<f.n->f.n<=j->e b=.blk c a g->mu j=.blk c d i->False:=by
    intro b j c a g d i h p l m
    by_cases u:b<t.n
    . rcases k2.old b u with x|⟨_,x⟩
      . rw [x,dR u]at l
        have:=n.inj b j c _ _ _ _ l m
        omega
      . rw [x]at l;cases l
    . rcases k2.fresh b c a g (by omega) l with x|⟨Q,I,K,S,N,_⟩
      . have:=n.clt m;omega
      . rw [dR S]at N
        have:=n.inj Q j c _ _ _ _ N m
        omega
   intro b j c a g d i l m
   by_cases h:b<f.n
   . rw [jr h]at l
     by_cases p:j<f.n
     . rw [jr p]at m;exact z.inj b j c _ _ _ _ l m
     . rw [jU (by omega)]at m;exact(y b j c _ _ _ _ h (by omega) l m).elim
   . rw [jU (by omega)]at l
     by_cases p:j<f.n
     . rw [jr p]at m;exact(y j b c _ _ _ _ p (by omega) m l).elim
     . rw [jU (by omega)]at m;exact n.inj b j c _ _ _ _ l m
 . by_cases h:b<f.n
   . omega
   . rw [jU (by omega)]at k;exact n.lt b k

structure SameAs(ops opsM:Array Oper)(σ:Nat->Nat):Prop where
 op: ∀p o,ops[p]? =some o-> ∃oM,opsM[σ p]? =some oM/\oM.op=o.op/\oM.dst=o.dst/\((o.guard=none/\oM.guard=none)\/ ∃j want,o.guard=some (j,want)/\oM.guard=some (σ j,want))
 no: ∀p,ops[p]? =none->opsM[σ p]? =none
theorem Ar {mu:Mu} {ops e:Array Oper} {σ:Nat->Nat} (h:SameAs ops e σ) {t:Tr Value} {tmps:Array Value} {o k:Oper} {b:Bool} (l:(o.guard=none/\k.guard=none)\/ ∃j a,o.guard=some (j,a)/\k.guard=some (σ j,a))
 (s: ∀j a o' d,o.guard=some (j,a)->ops[j]? =some o'->o'.dst=some d-> ∀v,t.get d=some v-> ∃v',tmps[d]? =some v'/\aq mu v v')
 (c:cm ops.toList t o=some b):Region.wanted k (yielded e tmps)=b:=by
 unfold cm at c
 unfold Region.wanted
 rcases l with⟨i,m⟩|⟨j,a,i,m⟩
 . rw [i]at c;rw [m];cases c;rfl
 . rw [i]at c
   rw [m]
   simp only []at c⊢
   unfold yielded
   cases f:ops[j]? with
   |none=>rw [Xa,f]at c;cases c;rw [h.no j f];simp [Option.bind]
   | some o'=>
     obtain⟨z,w,_,u,_⟩:=h.op j o' f
     rw [Xa,f]at c
     rw [w]
     simp only [Option.bind_some]at c⊢
     cases g:o'.dst with
     |none=>rw [g]at c;cases c;rw [u,g];rfl
     | some d=>
       rw [g]at c
       rw [u,g]
       simp only [Option.bind_some]at c⊢
       split at c
       next y n=>
        obtain⟨v',p,r⟩:=s j a o' d i f g _ n
        cases r
        rw [p]
        cases c
        cases y<;>cases a<;>rfl
       next x n=>
        obtain⟨v',p,r⟩:=s j a o' d i f g _ n
        rw [p]
        cases c
        cases r
        rfl
       next=>cases c
theorem sy{E:Env}{R:Rec}{ρ:Operand->Value}{b:Bool}{o a:Oper}{h:Hp}(e:a.op=o.op):cJ E R ρ b a h=cJ E R ρ b o h:=by
 unfold cJ;rw [e]
theorem alloc_at{mu:Mu}{h:Hp}{w w':World}(i:aF mu h w){b:Nat}(G:mu b=.none)(N:b<h.n){x:Blk}{top:Nat}{o:Obj}(p:h.get b=some x)(I:WNew w w' o)(s:kU mu x 0 top o):
 aF (upd mu b (.blk w.heap.size 0 top)) h w'/\Le mu (upd mu b (.blk w.heap.size 0 top)):=by
 have A: ∀j,w'.heap[j]? =if j=w.heap.size then some o else w.heap[j]? :=by
  intro j;rw [I.heap,XG]
 have hle:Le mu (upd mu b (.blk w.heap.size 0 top)):=by
  intro g t;left;exact aH _ _ (by intro e;subst e;exact t G)
 refine⟨⟨i.sized,?_,?_,?_,?_⟩,hle⟩
 . intro g c l r d
   by_cases a:g=b
   . subst a
     rw [upd_same]at d
     cases d
     exact⟨x,o,p,by rw [A];simp,s.mono hle⟩
   . rw [aH _ _ a]at d
     obtain⟨y,J,m,k,K⟩:=i.blk g c l r d
     have:=i.clt d
     exact⟨y,J,m,by rw [A,if_neg (by omega)];exact k,K.mono hle⟩
 . intro g d
   by_cases a:g=b
   . subst a;rw [upd_same]at d;cases d
   . rw [aH _ _ a]at d;exact i.dead g d
 . intro B u c v C z F m k
   by_cases n:B=b
   . by_cases f:u=b
     . rw [n,f]
     . subst n;rw [upd_same]at m;rw [aH _ _ f]at k
       cases m;have:=i.clt k;omega
   . rw [aH _ _ n]at m
     by_cases f:u=b
     . subst f;rw [upd_same]at k;cases k;have:=i.clt m;omega
     . rw [aH _ _ f]at k;exact i.inj B u c _ _ _ _ m k
 . intro g d
   by_cases a:g=b
   . omega
   . rw [aH _ _ a]at d;exact i.lt g d
theorem WExt.alloc{mu0 mu:Mu}{h0:Hp}{w0 w w':World}(W:WExt mu0 h0 w0 mu w)(m: ∀b,mu0 b≠ .none->b<h0.n)(i: ∀b c base top,mu0 b=.blk c base top->c<w0.heap.size){b top:Nat}{o:Obj}(A:h0.n<=b)(k:WNew w w' o):WExt mu0 h0 w0 (upd mu b (.blk w.heap.size 0 top)) w':=by
 have p: ∀j,j<w.heap.size->w'.heap[j]? =w.heap[j]? :=by
  intro j B;rw [k.heap,XG,if_neg (by omega)]
 refine⟨fun f g=>?_,fun f c base a g d=>?_,fun c hc r=>?_,fun f c base a t s el d n=>?_,?_,k.os.trans W.os,k.tape.trans W.tape,k.output.trans W.output⟩
 . rw [aH _ _ (by omega)];exact W.old f g
 . by_cases e:f=b
   . subst e;rw [upd_same]at d;cases d;exact .inl W.wsize
   . rw [aH _ _ e]at d
     rcases W.fresh f c base a g d with x|⟨u,h,l,x,y,z⟩
     . exact .inl x
     . exact .inr ⟨u,h,l,x,y,by rw [aH _ _ (by omega)];exact z⟩
 . rw [p c (Xi hc W.wsize)];exact W.frame c hc r
 . obtain⟨x,y⟩:=W.ro f c base a t s el d n
   have v:=m f (by rw [d];simp)
   refine⟨?_,by rw [aH _ _ (by omega)];exact y⟩
   rw [<-x]
   rcases Xh c w.heap.size with hc|hc
   . exact p c hc
   . have:=i _ _ _ _ d;have:=W.wsize;omega
 . rw [k.heap];simp;have:=W.wsize;omega
include ok in
theorem z8{mu:Mu}{h:Hp}{w:World}{b:Nat}{e:TypeId}{z:List Value}(r:E.zero e=some z)(s:aF mu h w)(t:mu b=.none)(u:b<h.n)(d:h.get b=some (.cells (Tr.ofList z) z.length e 1))(f:Operand->Value){o:Oper}(k:o.op=.alloc e):
 ∃w' top x,(execOp f o).run P w=.ok (.value (.pointer (some ⟨w.heap.size,0,none⟩))) w'/\WNew w w' x/\aF (upd mu b (.blk w.heap.size 0 top)) h w'/\Le mu (upd mu b (.blk w.heap.size 0 top)):=by
 obtain⟨c,y,A,N,l⟩:=mG ok r w
 have m:VL mu z c.cells.toList:=by
  rw [A];exact LR.refl fun a B=>aq.const mu (by simp only [List.all_eq_true]at l;exact l a B)
 have g:kU mu (.cells (Tr.ofList z) z.length e 1) 0 c.cells.size (.cells c.cells e):=by
  refine⟨c.cells,e,(0,0),rfl,rfl,?_,Tr.sized_ofList z,?_,?_⟩
  . have:=m.1;simp at this;omega
  . intro i v n
    rw [Tr.get_ofList]at n
    obtain⟨C,F,G⟩:=m.get n
    exact⟨C,by rw [Xe,<-Xa];exact F,G⟩
  . intro _ i _ O;omega
 obtain⟨I,J⟩:=alloc_at s t u d (gL w (.cells c.cells e)) g
 refine⟨_,_,_,?_,gL w (.cells c.cells e),I,J⟩
 obtain⟨K,op,p,pos,j,guard⟩:=o
 simp only []at k
 subst k
 simp [execOp,Instr.alloc,y,newVar,newRow]
include ok hc hcode D in
theorem inv_step (dk: ∀j o,j<ops.size->ops[j]? =some o->Turn ops E X q H T j o) (bi: ∀i,i<=ops.size->oD nr mu0 w0 L H i) (a6: ∀b,mu0 b≠ .none->b<(H 0).n) (bL: ∀b c base top,mu0 b=.blk c base top->c<w0.heap.size)
 {Q:Array Oper} {σ:Nat->Nat} (bP:SameAs ops Q σ)
 {S:Nat->Bool} {mu:Mu} {w:World} {tmps:Array Value} (l:Inv E ops q L H X nr mu0 w0 S mu w tmps) (hd:Down ops S) {p:Nat} {o:Oper} (N:ops[p]? =some o) (hr:Ready o S) (hp:S p=false)
 {F:FC} {dfs:List Deferred} {k:List Item} {cs:List Frame} {rest:List Nat}:
 ∃ cf w' a1,Inv E ops q L H X nr mu0 w0 (mj S p) cf w' a1/\
   Steps P (lone (F.mk' tmps dfs (.inRegion Q (σ p::rest)::k)) cs w) (lone (F.mk' a1 dfs (.inRegion Q rest::k)) cs w'):=by
 obtain⟨oM,al,e1,e2,e3⟩:=bP.op p o N
 have bk:=(Array.getElem?_eq_some_iff.1 N).1
 obtain⟨bl,wT,bm,t1,t2,t3,t4⟩:=bi p (by omega)
 obtain⟨c,U,hh⟩:=l.c
 have a2: ∀t∈jx ops.toList o,∀v,(L p).regs.get t=some v-> ∃v',tmps[t]? =some v'/\aq mu v v':=
  fun t ht v hv=>l.regs p (by omega) t v (ti D hd N hr hp ht) hv
 have ak: ∀{b:Bool},cm ops.toList (L p).regs o=some b->Region.wanted oM (yielded Q tmps)=b:=by
  intro b hg
  refine Ar (mu:=mu) bP e3 (fun j cX o' d cg hj ch v hv=>a2 d ?_ v hv) hg
  unfold jx
  rw [cg]
  simp only []
  rw [Xa,hj]
  simp [ch]
 have a7: ∀x,aq mu ((L p).evD (tmpsOf o.op.operands.toList) x) (dh tmps x):=
  fun x=>uH t3.sized l.size _ (fun t ht v hv=>a2 t (by
   unfold jx
   have:Operand.tmp t∈o.op.operands.toList:=(qg t _).1 ht
   simp only [List.mem_append,List.mem_filterMap]
   exact .inl (.inr ⟨.tmp t,this,rfl⟩)) v hv) l.glob x
 have bb: ∀x,aq bl ((L p).evD (tmpsOf o.op.operands.toList) x) (dh bm x):=
  fun x=>uH t3.sized t3.size _ (fun t ht v hv=>t3.get t v hv) t2 x
 have V: ∀j,j<=ops.size->(H j).t.Sized (H j).n:=fun j hj=>by obtain⟨_,_,_,g,_⟩:=bi j hj;exact g.sized
 have tp:=dk p o bk N
 have hs:=D.step p o N
 have bn: ∀j,j<=ops.size-> ∀b c base top t sz el,mu0 b=.blk c base top->(H 0).get b=some (.cells t sz el 0)->(H j).get b=some (.cells t sz el 0):=by
  intro j hj b c base top t sz el O hg
  obtain⟨_,_,_,_,_,_,e⟩:=bi j hj
  exact((e.ro b c base top t sz el O hg).2.1).trans hg
 have cW: ∀{i:Nat} {oi:Oper},ops[i]? =some oi->c=i->isW E X q oi i:=by
  intro i oi a3 cj
  subst cj
  rcases U.2.1 with e|⟨oc,Z,ad,_⟩
  . have:=(Array.getElem?_eq_some_iff.1 a3).1;omega
  . rw [a3]at Z;cases Z;exact ad
 generalize hL:L (p+1)=L1 at hs
 generalize hH:H (p+1)=H1 at hs
 generalize bX:T p=T1 at hs
 generalize bo:X p=X1 at hs
 cases hs with
 | skip hg=>
   have af:p≠c:=by
    intro e
    have:=(cW N e.symm).1
    rw [bo]at this;cases this
   have r:=uc (P:=P) (F:=F) (tmps:=tmps) (dfs:=dfs) (k:=k) (cs:=cs) (w:=w) (ops:=Q) (i:=σ p) (rest:=rest) (by rw [al];simpa using ak hg)
   rw [al,show(some oM).bind (·.dst)=oM.dst from rfl,e2]at r
   refine⟨mu,w,_,⟨⟨c,rl U af,hh⟩,l.glob,fun B C n b K A=>?_,by rw [mZ];exact l.size,?_,l.ext,?_⟩,.one r⟩
   . refine l.non B C ?_ b K A
     by_cases e:B=p
     . subst e;exact hp
     . rwa [bN S e]at n
   . exact ns D hd N hr hp (Le.refl mu) l.size t3.sized (v:=.tuple #[]) (v':=undef) (.tuple rfl (by intro i v v' hv;simp at hv)) hL l.regs
   . intro B C n b K A
     by_cases e:B=p
     . subst e;rw [hH]at A;omega
     . rw [bN S e]at n;exact l.cov B C n b K A
 | exec hg r=>
   rename_i v
   have W:=ak hg
   cases aL:eS o.op with
   | true =>
     obtain⟨e,bp⟩: ∃e,o.op=.alloc e:=by
      unfold eS at aL
      split at aL
      . exact⟨_, ‹_›⟩
      . cases aL
     have h4:=uU (E:=E) aL
     have bq:=D.four p o N h4
     have hk:isQ E X q o p:=⟨bo,by omega,bq⟩
     rw [pW (by omega) bq]at r
     obtain⟨z,hz,hv,bY⟩: ∃z,E.zero e=some z/\v=ptrTo (H p).n/\H1=(H p).new (.cells (Tr.ofList z) z.length e 1):=by
      unfold cJ at r
      simp only [cond_true,bp,aop]at r
      cases hz:E.zero e with
      |none=>rw [hz]at r;cases r
      | some z=>
        rw [hz]at r
        simp only [cP,cN,pT]at r
        rw [show XH (H p).n (({H p with lo:=(H p).n}:Hp).new (.cells (Tr.ofList z) z.length e 1)).lo=true from XD (Xc _)]at r
        cases r
        exact⟨z,rfl,rfl,rfl⟩
     have hT:T p=some (H p).n:=by rw [bX];unfold jO;rw [aL];rfl
     have br:(H (p+1)).get (H p).n=some (.cells (Tr.ofList z) z.length e 1):=by rw [hH,bY,Hp.get_new _ _ (V p (by omega)),if_pos rfl]
     have cY:(H (p+1)).n=(H p).n+1:=by rw [hH,bY];rfl
     have af:p<c:=by
      rcases Xk p c with h|h|h
      . exact h
      . exfalso
        have hw:=cW N h.symm
        rcases hw.2 with x|⟨_,x⟩
        . omega
        . rw [bq]at x;cases x
      . exfalso
        rcases U.2.1 with e|⟨oc,Z,ad,a4⟩
        . omega
        . obtain⟨m,O⟩:=mask D N
          have:=nj D hd N O hr (cmp D N O h Z (.inl ⟨ad,.inr hk⟩))
          rw [a4]at this;cases this
     have bc:(H (p+1)).n<=(H c).n:=ep dk (by omega) U.1
     have bs:(H c).get (H p).n=some (.cells (Tr.ofList z) z.length e 1):=by
      have :=walk_eq (fun j=>(H j).get (H p).n) (a:=p+1) (c-(p+1)) (fun j K A=>by
       have hj:j<ops.size:=by have:=U.1;omega
       have I:ops[j]? =some ops[j]:=zM hj
       have tj:=dk j _ hj I
       show(H (j+1)).get (H p).n=(H j).get (H p).n
       rcases kinds D I with x|x|x
       . rw [tj.still x]
       . refine tj.quiet x _ ?_
         have:=ep dk K (by omega)
         omega
       . obtain⟨m,O⟩:=mask D I
         have ck:=U.2.2 j _ (by omega) I x
         have s:m.testBit p=false:=by
          cases s:m.testBit p with
          |false=>rfl
          |true=>have:=mr D hd j _ m p I O ck s;rw [hp]at this;cases this
         obtain⟨_,hu⟩:=D.owe j _ m p o I O (by omega) N s
         have cl:=x.2
         have h5:=cls_le (E:=E) ops[j].op
         rcases hu with h|h|⟨_,h⟩|⟨_,h,_⟩|⟨_,h,_⟩|⟨_,h,_⟩|⟨_,h,_⟩|⟨a,b,c',d⟩|⟨_,h,_⟩|⟨_,h,_⟩|⟨_,_,b0,_,cn⟩
         . omega
         . omega
         . omega
         . omega
         . omega
         . omega
         . omega
         . rcases cl with hx|⟨hx,hq⟩
           . exact absurd hx a
           . rw [d hx]at hq;cases hq
         . omega
         . omega
         . exact D.leave (.inl cn) N I (kX (E:=E) (by omega)) b0 x.1 (uf x) hT)
      rw [show p+1+(c-(p+1))=c by omega]at this
      exact this.trans br
     have cp:=l.non p bk hp (H p).n (Xc _) (by omega)
     obtain⟨w',top,ob,r1,r2,r3,r4⟩:=z8 (P:=P) ok hz hh cp (by omega) bs (dh tmps) (o:=oM) (e1.trans bp)
     have bd:=wX (P:=P) (F:=F) (dfs:=dfs) (k:=k) (cs:=cs) (rest:=rest) al W (.inr fun cc b1=>by rw [e1,bp]at b1;cases b1) r1
     rw [e2]at bd
     refine⟨upd mu (H p).n (.blk w.heap.size 0 top),w',_,⟨⟨c,rl U (by omega),r3⟩,l.glob.mono r4,fun B C n b K A=>?_,by rw [mZ];exact l.size,?_,?_,?_⟩,.one bd⟩
     . have a5:B≠p:=by intro e;subst e;rw [gK]at n;cases n
       rw [bN S a5]at n
       rw [aH _ _ (by
        rcases Xh p B with x|x
        . have:=ep dk (show p+1<=B from x) (by omega);omega
        . have:=ep dk (show B+1<=p by omega) (by omega);omega)]
       exact l.non B C n b K A
     . refine ns D hd N hr hp r4 l.size t3.sized (v:=v) (v':=.pointer (some ⟨w.heap.size,0,none⟩)) ?_ hL l.regs
       rw [hv]
       exact .ptr (uw mu (H p).n w.heap.size 0 _)
     . exact l.ext.alloc a6 bL (ep dk (Xp p) (by omega)) r2
     . intro B C n b K A G
       by_cases e:B=p
       . subst e
         have:b=(H B).n:=by omega
         subst this
         rw [upd_same]at G;cases G
       . rw [bN S e]at n
         have J:=l.cov B C n b K A
         rcases r4 b J with x|x
         . rw [G]at x;exact J x.symm
         . rw [G]at x;cases x
   |false=>
   rcases kinds D N with hk|hk|hk
   . -- a read
     have be:cls E o.op<=1:=by
      rcases hk with x|x
      . rw [bo]at x;cases x
      . exact x
     have af:p≠c:=by
      intro e
      rcases(cW N e.symm).2 with x|⟨x,_⟩<;>omega
     obtain⟨f,f1,f2,f3⟩:=yk (E:=E) (op:=o.op) (ρ:=(L p).evD (tmpsOf o.op.operands.toList)) (by omega)
     rw [uX be]at r
     have cr:f (H p)=some v:=by
      simp only [cJ,cond_false]at r
      rw [f1 (H p)]at r
      cases hf:f (H p)with
      |none=>rw [hf]at r;cases r
      |some u=>rw [hf]at r;cases r;rfl
     have cv:f (H c)=some v:=by
      rw [<-cr]
      exact read_at D dk V hd U N hr hp be (bX.trans (qo (E:=E) (by omega) _ _)) (fun b s=>t1.lt b (xe bb s)) (fun b s=>hh.lt b (xe a7 s)) f1 f2 f3
     have b2:cJ E R ((L p).evD (tmpsOf o.op.operands.toList)) false o (H c)=some (v,H c):=by
      simp only [cJ,cond_false]
      rw [f1 (H c),cv];rfl
     obtain⟨ai,w1,v',k1,k2,k3,_,k4⟩:=oN ok hc hcode hh l.glob a7 (F:=F) (ops:=Q) (i:=σ p) (dfs:=dfs) (k:=k) (cs:=cs) (rest:=rest) al W ((sy e1).trans b2)
     rw [e2]at k4
     have le:=k2.le hh
     have bt: ∀b,mu b=.none->ai b=.none:=by
      intro b s
      by_cases cx:b<(H c).n
      . rcases k2.old b cx with x|⟨x,_⟩
        . rw [x];exact s
        . exact absurd s x
      . exact k1.none_ge (by omega)
     refine⟨ai,w1,_,⟨⟨c,rl U af,k1⟩,l.glob.mono le,fun B C n b K A=>?_,by rw [mZ];exact l.size,?_,?_,?_⟩,k4⟩
     . refine bt b (l.non B C ?_ b K A)
       by_cases e:B=p
       . subst e;exact hp
       . rwa [bN S e]at n
     . exact ns D hd N hr hp le l.size t3.sized k3 hL l.regs
     . refine l.ext.step a6 (ep dk (Xp c) U.1) (by rw [yy hh.lt];exact k2) (bn c U.1) (fun _ _=>rfl) (fun b s=>?_)
       rw [k1.none_ge s,hh.none_ge s]
     . intro B C n b K A G
       by_cases e:B=p
       . subst e;rw [tp.still hk]at A;omega
       . rw [bN S e]at n
         have J:=l.cov B C n b K A
         rcases le b J with x|x
         . rw [G]at x;exact J x.symm
         . rw [G]at x;cases x
   . -- a quiet one:it runs at p,below c
     have af:p<c:=by
      rcases Xk p c with h|h|h
      . exact h
      . exfalso
        have hw:=cW N h.symm
        rcases hw.2 with x|⟨_,x⟩
        . have:=hk.2.1;omega
        . rw [hk.2.2]at x;cases x
      . exfalso
        rcases U.2.1 with e|⟨oc,Z,ad,a4⟩
        . omega
        . obtain⟨m,O⟩:=mask D N
          have:=nj D hd N O hr (cmp D N O h Z (.inl ⟨ad,.inr hk⟩))
          rw [a4]at this;cases this
     have bf: ∀j oj,p<=j->j<c->ops[j]? =some oj->isR E X oj j\/isQ E X q oj j:=by
      intro j oj K A I
      rcases kinds D I with x|x|x
      . exact .inl x
      . exact .inr x
      . exfalso
        by_cases e:j=p
        . subst e
          rw [N]at I;cases I
          rcases x.2 with y|⟨_,y⟩
          . have:=hk.2.1;omega
          . rw [hk.2.2]at y;cases y
        . obtain⟨m,O⟩:=mask D I
          have:=mr D hd j oj m p I O (U.2.2 j oj A I x) (cmp D I O (by omega) N (.inr ⟨hk,x,aL⟩))
          rw [hp]at this;cases this
     have Y: ∀b,b<(H p).n->(H c).get b=(H p).get b:=fun b s=>stand dk (by omega) U.1 bf s
     have ba: ∀b,b<(H (p+1)).n->(H c).get b=(H (p+1)).get b:=fun b s=>stand dk (by omega) U.1 (fun j oj K A=>bf j oj (by omega) A) s
     have c1:(H p).n<=(H c).n:=ep dk (by omega) U.1
     have bc:(H (p+1)).n<=(H c).n:=ep dk (by omega) U.1
     have b3:aF (cut mu (H p).n) (H p) w:=by
      refine⟨V p (by omega),fun b c0 base top O=>?_,fun b O=>?_,fun b b' c0 base top bu b4 K A=>?_,fun b O=>?_⟩
      . by_cases s:b<(H p).n
        . rw [dR s]at O
          obtain⟨x,ob,g1,g2,g3⟩:=hh.blk b c0 base top O
          refine⟨x,ob,by rw [<-Y b s];exact g1,g2,?_⟩
          have cz:bl b≠ .none:=by
           by_cases G:b<(H 0).n
           . have cA:mu0 b≠ .none:=by
              rcases l.ext.old b G with y|⟨y,_⟩
              . rw [<-y,O];simp
              . exact y
             rcases t4.old b G with y|⟨_,y⟩
             . rw [y];exact cA
             . rw [y];simp
           . exact t4.cover b (by omega) s
          cases bv:bl b with
          |none=>exact absurd bv cz
          | dead=>
            have:=t1.dead b bv
            rw [<-Y b s,g1]at this
            cases this
            exact g3.elim
          | blk cT bx b5=>
            obtain⟨xT,oT,j1,j2,j3⟩:=t1.blk b cT bx b5 bv
            rw [<-Y b s,g1]at j1
            cases j1
            exact kU.cut (fun b' bB=>t1.lt b' bB) g3 j3
        . rw [mY (by omega)]at O;cases O
      . by_cases s:b<(H p).n
        . rw [dR s]at O;rw [<-Y b s];exact hh.dead b O
        . rw [mY (by omega)]at O;cases O
      . exact hh.inj b b' c0 base top bu b4 (by
         by_cases s:b<(H p).n
         . rw [dR s]at K;exact K
         . rw [mY (by omega)]at K;cases K) (by
         by_cases s:b'<(H p).n
         . rw [dR s]at A;exact A
         . rw [mY (by omega)]at A;cases A)
      . by_cases s:b<(H p).n
        . exact s
        . rw [mY (by omega)]at O;exact absurd rfl O
     have b6: ∀x,aq (cut mu (H p).n) ((L p).evD (tmpsOf o.op.operands.toList) x) (dh tmps x):=fun x=>aq.cut (fun b' bB=>t1.lt b' bB) (bb x) (a7 x)
     have cL:kT (cut mu (H p).n):=fun g hg=>(l.glob g hg).cut (t1.lt _ (t2 g hg).in)
     have bh:=r
     rw [pW hk.2.1 hk.2.2]at bh
     obtain⟨ai,w1,v',k1,k2,k3,_,k4⟩:=oN ok hc hcode b3 cL b6 (F:=F) (ops:=Q) (i:=σ p) (dfs:=dfs) (k:=k) (cs:=cs) (rest:=rest) al W ((sy e1).trans bh)
     rw [e2]at k4
     rw [<-hH]at k1 k2
     obtain⟨gh,le,cO⟩:=glue_rel hh k1 k2 (fun b K A=>l.non p bk hp b K A) bc ba
     refine⟨glue ai mu (H (p+1)).n,w1,_,⟨⟨c,rl U (by omega),gh⟩,l.glob.mono le,fun B C n b K A=>?_,by rw [mZ];exact l.size,?_,?_,?_⟩,k4⟩
     . have a5:B≠p:=by intro e;subst e;rw [gK]at n;cases n
       rw [bN S a5]at n
       have J:=l.non B C n b K A
       rcases Xh p B with x|x
       . rw [jU (Xn (ep dk (show p+1<=B from x) (by omega)) K)];exact J
       . have a0:b<(H p).n:=Xi A (ep dk (show B+1<=p by omega) (by omega))
         rw [jr (Xi a0 tp.n)]
         rcases k2.old b a0 with y|⟨y,_⟩
         . rw [y,dR a0];exact J
         . rw [dR a0]at y;exact absurd J y
     . exact ns D hd N hr hp le l.size t3.sized (k3.mono cO) hL l.regs
     . exact l.ext.step a6 (ep dk (Xp p) (by omega)) k2 (bn p (by omega)) (fun b s=>jr s) (fun b s=>jU s)
     . intro B C n b K A G
       by_cases e:B=p
       . subst e;rw [jr A]at G;exact k2.cover b K A G
       . rw [bN S e]at n
         have J:=l.cov B C n b K A
         rcases le b J with x|x
         . rw [G]at x;exact J x.symm
         . rw [G]at x;cases x
   . -- a writer:it is the one at c
     have af:p=c:=by
      rcases Xk p c with h|h|h
      . have:=U.2.2 p o h N hk;rw [hp]at this;cases this
      . exact h
      . rcases U.2.1 with e|⟨oc,Z,ad,a4⟩
        . omega
        . obtain⟨m,O⟩:=mask D N
          have:=nj D hd N O hr (cmp D N O h Z (.inl ⟨ad,.inl hk⟩))
          rw [a4]at this;cases this
     subst af
     rw [uf hk]at r
     obtain⟨ai,w1,v',k1,k2,k3,_,k4⟩:=oN ok hc hcode hh l.glob a7 (F:=F) (ops:=Q) (i:=σ p) (dfs:=dfs) (k:=k) (cs:=cs) (rest:=rest) al W ((sy e1).trans r)
     rw [e2]at k4
     have le:=k2.le hh
     rw [<-hH]at k1 k2
     obtain⟨c',d1,d2,d3,d4⟩:=next_W (E:=E) (ops:=ops) (q:=q) (X:=X) (ops.size-(p+1)) (p+1) (by omega)
     have bE:aF ai (H c') w1:=by
      refine uq k1 (V c' d2) (ep dk d1 d2) (fun b s=>stand dk d1 d2 (fun j oj K A I=>?_) s)
      rcases kinds D I with x|x|x
      . exact .inl x
      . exact .inr x
      . exact absurd x (d4 j oj K A I)
     refine⟨ai,w1,_,⟨⟨c',⟨d2,?_,?_⟩,bE⟩,l.glob.mono le,fun B C n b K A=>?_,by rw [mZ];exact l.size,?_,?_,?_⟩,k4⟩
     . rcases d3 with e|⟨o',b7,b8⟩
       . exact .inl e
       . refine .inr ⟨o',b7,b8,?_⟩
         rw [bN S (by omega)]
         exact after_c D hd U (by omega) b7 (.inl b8) (fun _=>by omega)
     . intro i oi hi a3 b9
       by_cases cb:i=p
       . subst cb;exact gK S i
       . rw [bN S cb]
         rcases Xh i p with x|x
         . exact U.2.2 i oi x a3 b9
         . exact absurd b9 (d4 i oi (by omega) hi a3)
     . have a5:B≠p:=by intro e;subst e;rw [gK]at n;cases n
       rw [bN S a5]at n
       rcases Xh p B with x|x
       . exact k1.none_ge (Xn (ep dk (show p+1<=B from x) (by omega)) K)
       . have a0:b<(H p).n:=Xi A (ep dk (show B+1<=p by omega) (by omega))
         have J:=l.non B C n b K A
         rcases k2.old b a0 with y|⟨y,_⟩
         . rw [y];exact J
         . exact absurd J y
     . exact ns D hd N hr hp le l.size t3.sized k3 hL l.regs
     . refine l.ext.step a6 (ep dk (Xp p) U.1) (by rw [yy hh.lt];exact k2) (bn p U.1) (fun _ _=>rfl) (fun b s=>?_)
       rw [k1.none_ge s,hh.none_ge (Xn tp.n s)]
     . intro B C n b K A G
       by_cases e:B=p
       . subst e;exact k2.cover b K A G
       . rw [bN S e]at n
         have J:=l.cov B C n b K A
         rcases le b J with x|x
         . rw [G]at x;exact J x.symm
         . rw [G]at x;cases x
end
end Go.Ab

namespace Go.Ab
theorem om{e a:Edge}(h:e.ground=a.ground):binds e=binds a:=by
 unfold binds Region.binds;rw [h]
structure Ord(ops opsM:Array Oper)(σ τ:Nat->Nat):Prop where
 size:ops.size=opsM.size
 lt: ∀p,p<ops.size↔σ p<ops.size
 st: ∀i,σ (τ i)=i
 ts: ∀p,τ (σ p)=p
 op: ∀p o,ops[p]? =some o-> ∃oM,opsM[σ p]? =some oM/\oM.op=o.op/\oM.dst=o.dst/\((o.guard=none/\oM.guard=none)\/ ∃j want,o.guard=some (j,want)/\oM.guard=some (σ j,want))/\
  (∀e∈o.after.toList,∃eM∈oM.after.toList,e.ground=eM.ground/\(eM.on<ops.size->e.on=τ eM.on)/\(ops.size<=eM.on->ops.size<=e.on))/\
  ∀eM∈oM.after.toList,∃e∈o.after.toList,e.ground=eM.ground/\(eM.on<ops.size->e.on=τ eM.on)/\(ops.size<=eM.on->ops.size<=e.on)
theorem Ord.same{ops e:Array Oper}{σ g:Nat->Nat}(o:Ord ops e σ g):SameAs ops e σ:=by
 refine⟨fun p x i=>?_,fun p f=>?_⟩
 . obtain⟨j,a,b,c,d,_⟩:=o.op p x i;exact⟨j,a,b,c,d⟩
 . have k: ¬p<ops.size:=by intro h;rw [zM h]at f;cases f
   refine XA ?_
   rw [<-o.size]
   have:=mt (o.lt p).2 k
   omega
theorem Ord.id(ops:Array Oper):Ord ops ops (fun i=>i) (fun i=>i):=by
 refine⟨rfl,fun _=>Iff.rfl,fun _=>rfl,fun _=>rfl,fun p o b=>⟨o,b,rfl,rfl,?_,fun e a=>⟨e,a,rfl,fun _=>rfl,fun h=>h⟩,fun e a=>⟨e,a,rfl,fun _=>rfl,fun h=>h⟩⟩⟩
 cases c:o.guard with
 |none=>exact .inl ⟨rfl,rfl⟩
 |some q=>obtain⟨j,w⟩:=q;exact .inr ⟨j,w,rfl,rfl⟩
theorem p9{i:Nat}: ∀{l:List Nat},i∈l->gw i l<l.length/\l[gw i l]? =some i
 | [],h=>by cases h
 | x ::l,h=>by
   unfold gw
   cases c:Xo i x with
   | true=>
     have:=zO c
     subst this
     simp
   | false=>
     have d:i≠x:=by intro e;subst e;rw [Xv]at c;cases c
     rcases List.mem_cons.1 h with e|h
     . exact absurd e d
     . obtain⟨a,b⟩:=p9 h
       simp only [cond_false,Xq,Xx]
       exact⟨by omega,b⟩
theorem qV{i:Nat}: ∀{l:List Nat},i∉l->gw i l=l.length
 | [],_=>rfl
 | x::l,h=>by
   unfold gw
   have a:Xo i x=false:=by
    cases a:Xo i x with
    |false=>rfl
    |true=>exact absurd (List.mem_cons.2 (.inl (zO a))) h
   rw [a]
   simp only [cond_false,Xq]
   rw [qV (fun b=>h (Xd _ b))]
theorem ordL_mem(ops:List Oper)(i:Nat):i∈ordL ops↔i<ops.length:=by
 unfold ordL
 simp only [List.mem_append,Xy,XE]
 cases freeAt ops i<;>simp
theorem Al(ops:List Oper):(ordL ops).Nodup:=by
 unfold ordL
 rw [List.nodup_append]
 refine⟨List.nodup_range.filter _,List.nodup_range.filter _,fun a d b f e=>?_⟩
 subst e
 have g:=(List.mem_filter.1 d).2
 have c:=(List.mem_filter.1 f).2
 rw [g]at c
 cases c
theorem ordL_len(ops:List Oper):(ordL ops).length=ops.length:=by
 unfold ordL
 rw [List.length_append]
 have a: ∀(l:List Nat) (f:Nat->Bool),(l.filter f).length+(l.filter fun i=>!f i).length=l.length:=by
  intro l f
  induction l with
  |nil=>rfl
  | cons x l b=>
    simp only [List.filter_cons]
    cases f x<;>simp<;>omega
 rw [a,List.length_range]
theorem uW(ops:List Oper)(ord:List Nat): ∀(l:List Nat),(∀i∈l,i<ops.length)-> ∀(p:Nat),(gk ops ord l)[p]? =(l[p]?).bind fun(i:Nat)=>(ops[i]?).map (reix ord)
 | [],_,p=>by simp [gk]
 | i ::l,h,p=>by
   have a:i<ops.length:=h i Xg
   unfold gk
   rw [Xj a]
   simp only []
   cases p with
   |zero=>simp [a]
   | succ p=>
     simp only [Xx]
     exact uW ops ord l (fun j b=>h j (Xd _ b)) p
theorem hoist_ord(ops:Array Oper): ∃(s:Array Oper) (σ R:Nat->Nat),s.toList=eA ops.toList/\Ord s ops σ R:=by
 unfold eA
 cases L:ops.toList.any ra&&ops.toList.all (pD ops.toList.length)with
 |false=>exact⟨ops,_,_,rfl,Ord.id ops⟩
 | true=>
   simp only [Xb]at L
   have B:=L.2
   simp only [cond_true]
   have k:=ordL_mem ops.toList
   have x:=Al ops.toList
   have l:=ordL_len ops.toList
   generalize ordL ops.toList=f at*
   have C:ops.toList.length=ops.size:=by simp
   rw [C]at l k
   have t:=uW ops.toList f f (fun i D=>by rw [C];exact(k i).1 D)
   have E:(gk ops.toList f f).length=ops.size:=by
    have y: ∀p,p<(gk ops.toList f f).length↔p<ops.size:=by
     intro p
     have S:p<(gk ops.toList f f).length↔((gk ops.toList f f)[p]?).isSome=true:=by simp
     rw [S,t]
     rcases Xh p ops.size with h|h
     . have m:p<f.length:=by omega
       rw [Xj m]
       have r:f[p]<ops.size:=(k _).1 (Xw m)
       simp [r,h]
     . rw [Xm (by omega)]
       simp;omega
    have a:=y (gk ops.toList f f).length
    have b:=y ops.size
    omega
   refine⟨(gk ops.toList f f).toArray,fun p=>(f[p]?).getD p,fun i=>if i<ops.size then gw i f else i,rfl,?_⟩
   have M: ∀p,p<ops.size-> ∃i,f[p]? =some i/\i<ops.size:=fun p F=>⟨f[p]'(by omega),Xj _,(k _).1 (Xw _)⟩
   have G: ∀p i,f[p]? =some i->gw i f=p:=by
    intro p i F
    have D:i∈f:=XF F
    obtain⟨a,b⟩:=p9 D
    have m:=List.getElem?_eq_some_iff.1 F
    have r:=List.getElem?_eq_some_iff.1 b
    obtain⟨c,N⟩:=m
    obtain⟨d,O⟩:=r
    rcases Xk (gw i f) p with n|n|n
    . exact absurd (O.trans N.symm) (List.pairwise_iff_getElem.1 x _ _ d c n)
    . exact n
    . exact absurd (N.trans O.symm) (List.pairwise_iff_getElem.1 x _ _ c d n)
   have g:(gk ops.toList f f).toArray.size=ops.size:=by simp [E]
   refine⟨g,fun p=>?_,fun i=>?_,fun p=>?_,fun p o T=>?_⟩
   . rw [g]
     rcases Xh p ops.size with h|h
     . obtain⟨i,m,r⟩:=M p h
       simp [m,h,r]
     . rw [Xm (by omega)];simp
   . by_cases h:i<ops.size
     . rw [if_pos h,(p9 ((k i).2 h)).2];rfl
     . rw [if_neg h,Xm (by omega)];rfl
   . rcases Xh p ops.size with h|h
     . obtain⟨i,m,r⟩:=M p h
       simp only [m,Xr,r,if_true]
       exact G p i m
     . rw [Xm (by omega)]
       simp only [Option.getD_none]
       rw [if_neg (by omega)]
   . have z:(gk ops.toList f f)[p]? =some o:=by simpa using T
     rw [t]at z
     obtain⟨i,m,r⟩:=Option.bind_eq_some_iff.1 z
     obtain⟨A,P,rfl⟩:=Option.map_eq_some_iff.1 r
     have H:ops[i]? =some A:=by simpa using P
     refine⟨A,by simp only [m,Xr];exact H,rfl,rfl,?_,?_,?_⟩
     . have I:=List.all_eq_true.1 B A (XF P)
       unfold pD at I
       cases u:A.guard with
       |none=>left;simp [reix,u]
       | some q=>
         obtain⟨j,w⟩:=q
         rw [u]at I
         have U:j<ops.size:=by rw [<-C];simpa [Nat.blt_eq]using I
         right
         refine⟨gw j f,w,by simp [reix,u],?_⟩
         rw [(p9 ((k j).2 U)).2];rfl
     . intro e Q
       simp only [reix,Array.toList_map,List.mem_map]at Q
       obtain⟨v,J,rfl⟩:=Q
       refine⟨v,J,rfl,fun h=>?_,fun h=>?_⟩
       . rw [g]at h;simp [h]
       . rw [g]at h
         show _<=gw v.on f
         rw [qV (fun K=>by have:=(k _).1 K;omega),l,g];exact Xc _
     . intro v J
       refine⟨{v with on:=gw v.on f},by simp only [reix,Array.toList_map,List.mem_map];exact⟨v,J,rfl⟩,rfl,fun h=>?_,fun h=>?_⟩
       . rw [g]at h;simp [h]
       . rw [g]at h
         show _<=gw v.on f
         rw [qV (fun K=>by have:=(k _).1 K;omega),l,g];exact Xc _
end Go.Ab

namespace Go.Ab

def iW(S:Nat->Bool):Nat->Nat
 |0=>0
 |n+1=>iW S n+(if S n=true then 0 else 1)
theorem qj{S:Nat->Bool}: ∀{n:Nat},iW S n=0-> ∀i,i<n->S i=true
 |0,_,i,b=>by omega
 | n +1,h,i,b=>by
   simp only [iW]at h
   by_cases a:S n=true
   . rw [if_pos a]at h
     by_cases e:i=n
     . subst e;exact a
     . exact qj (n:=n) (by omega) i (by omega)
   . rw [if_neg a]at h;omega
theorem vt{S:Nat->Bool}: ∀{n:Nat},iW S n≠0-> ∃i,i<n/\S i=false/\ ∀j,j<i->S j=true
 |0,h=>absurd rfl h
 | n +1,h=>by
   by_cases b:iW S n=0
   . have a:=qj b
     simp only [iW,b]at h
     by_cases c:S n=true
     . rw [if_pos c]at h;omega
     . exact⟨n,by omega,by simpa using c,a⟩
   . obtain⟨i,f,d,e⟩:=vt b
     exact⟨i,by omega,d,e⟩
theorem xS{S:Nat->Bool}{p:Nat}: ∀{n:Nat},n<=p->iW (mj S p) n=iW S n
 |0,_=>rfl
 | n+1,h=>by
   simp only [iW]
   rw [xS (by omega),bN S (by omega)]
theorem vU{S:Nat->Bool}{p:Nat}(a:S p=false): ∀{n:Nat},p<n->iW (mj S p) n+1=iW S n
 |0,h=>by omega
 | n +1,h=>by
   simp only [iW]
   by_cases e:p=n
   . subst e
     rw [xS (Xc _),gK,a];simp
   . have:=vU a (n:=n) (by omega)
     rw [bN S (by omega)];omega
theorem tN: ∀(n:Nat),iW (fun _=>false) n=n
 |0=>rfl
 |n+1=>by simp [iW,tN n]

def dg(listed:Array Bool):Nat->Bool:=fun i=>listed.getD i false
theorem y9{listed:Array Bool}{p:Nat}(a:p<listed.size):dg (listed.setIfInBounds p true)=mj (dg listed) p:=by
 funext i
 simp only [dg,mj,Xf,Xt]
 by_cases e:p=i
 . subst e;simp [a]
 . rw [if_neg e,if_neg (Ne.symm e)]

theorem rJ(l:Loc)(d:Option Tmp)(v:Value):(l.put d v).dfs=l.dfs/\(l.put d v).rc=l.rc:=by cases d<;>exact⟨rfl,rfl⟩

section
variable{E:Env}{P:Program}(ok:EOk E P){R:Rec}(hc:ib E P R.call)(hcode:ji P R.code)
variable{ops:Array Oper}{q:Nat}{ps:List (Nat×Nat)}{M:List Nat}{L:Nat->Loc}{H:Nat->Hp}{T:Nat->Option Nat}{X:Nat->Bool}(D:DT E R ops q ps M L H T X)
variable{nr:Nat}{mu0:Mu}{w0:World}

include D in
theorem down_add{S:Nat->Bool}(j:Down ops S){p:Nat}{o:Oper}(g:ops[p]? =some o)(k:Ready o S):Down ops (mj S p):=by
 intro i l a h e d f
 by_cases b:i=p
 . subst b
   rw [g]at a;cases a
   obtain⟨m,_,n,_⟩:=D.bef i o (by rw [Xa];exact g)
   have:=n e d f
   rw [bN S (by omega)]
   exact k e d f
 . rw [bN S b]at h
   have:=j i l a h e d f
   by_cases c:e.on=p
   . rw [c];exact gK S p
   . rw [bN S c];exact this

include ok hc hcode D in
theorem go_sim(dk: ∀j o,j<ops.size->ops[j]? =some o->Turn ops E X q H T j o)(K: ∀i,i<=ops.size->oD nr mu0 w0 L H i)(N: ∀b,mu0 b≠ .none->b<(H 0).n)(y: ∀b c base top,mu0 b=.blk c base top->c<w0.heap.size)
 {a:Array Oper} {σ l:Nat->Nat} (g:Ord ops a σ l)
 {F :FC} {dfs:List Deferred} {k:List Item} {cs:List Frame}: ∀(f t:Nat) (listed:Array Bool) (mu:Mu) (w:World) (tmps:Array Value),listed.size=ops.size->Down ops (fun p=>dg listed (σ p))->iW (fun p=>dg listed (σ p)) ops.size=f->
  Inv E ops q L H X nr mu0 w0 (fun p=>dg listed (σ p)) mu w tmps->
  ∃ B r w' d,Inv E ops q L H X nr mu0 w0 B r w' d/\(∀i,i<ops.size->B i=true)/\
    Steps P (lone (F.mk' tmps dfs (.inRegion a (Region.linearise.go .any a f t listed [])::k)) cs w) (lone (F.mk' d dfs (.inRegion a []::k)) cs w')
 |0,t,listed,mu,w,tmps,O,hd,hl,C=>⟨fun p=>dg listed (σ p),mu,w,tmps,C,qj hl,Steps.refl _ _⟩
 | f + 1,t,listed,mu,w,tmps,O,hd,hl,C=>by
   have Q: ∀i,i<ops.size->l i<ops.size:=fun i G=>(g.lt (l i)).2 (by rw [g.st];exact G)
   have U: ∀i,i∈Region.ready .any a listed->i<ops.size/\dg listed i=false/\ ∀o,ops[l i]? =some o->Ready o (fun p=>dg listed (σ p)):=by
    intro i G
    unfold Region.ready at G
    simp only [Xy,XE,Xb,Xl]at G
    obtain⟨z,s,A⟩:=G
    rw [<-g.size]at z
    refine⟨z,?_,fun o u e he I=>?_⟩
    . simp only [dg]
      rw [Xf,zM (by omega)]at s⊢
      simpa using s
    . obtain⟨oM,k1,_,_,_,k5,_⟩:=g.op (l i) o u
      rw [g.st]at k1
      rw [k1]at A
      simp only [Option.map_some,Xr]at A
      obtain⟨v,j1,j2,j3,j4⟩:=k5 e he
      have:=(Array.all_eq_true'.1 A) v (by simpa using j1)
      rw [om j2]at I
      unfold binds at I
      rw [I]at this
      obtain⟨m,_,V,_⟩:=D.bef (l i) o (by rw [Xa];exact u)
      have W:=V e he (by rw [om j2];unfold binds;exact I)
      have:=Q i z
      have hlt:v.on<ops.size:=by
       rcases Xh v.on ops.size with x|x
       . exact x
       . have:=j4 x;omega
      show dg listed (σ e.on)=true
      rw [j3 hlt,g.st]
      simp only [dg]
      simpa using(Array.all_eq_true'.1 A) v (by simpa using j1)|>fun h=>by rw [I]at h;simpa using h
   have ak:Region.ready .any a listed≠ []:=by
    obtain⟨p,z,s,A⟩:=vt (S:=fun p=>dg listed (σ p)) (n:=ops.size) (by omega)
    intro e
    have u:ops[p]? =some ops[p]:=zM z
    obtain⟨m,_,I,_⟩:=D.bef p ops[p] (by rw [Xa];exact u)
    obtain⟨oM,k1,_,_,_,_,k6⟩:=g.op p _ u
    have Y:=(g.lt p).1 z
    have :σ p∈Region.ready .any a listed:=by
     unfold Region.ready
     simp only [Xy,XE,Xb,Xl]
     refine⟨by rw [<-g.size];exact Y,?_,?_⟩
     . simp only [dg]at s
       rw [Xf,zM (by omega)]at s⊢
       simpa using s
     . rw [k1]
       simp only [Option.map_some,Xr]
       refine Array.all_eq_true'.2 fun v he=>?_
       cases al:Region.binds .any v with
       |false=>rfl
       | true=>
         obtain⟨e',j1,j2,j3,j4⟩:=k6 v (by simpa using he)
         have W:=I e' j1 (by rw [om j2];unfold binds;exact al)
         have hlt:v.on<ops.size:=by
          rcases Xh v.on ops.size with x|x
          . exact x
          . have:=j4 x;omega
         have:=A e'.on W
         rw [j3 hlt,g.st]at this
         simpa [dg]using this
    rw [e]at this;cases this
   simp only [Region.linearise.go]
   change∃B r w' d,Inv E ops q L H X nr mu0 w0 B r w' d/\(∀i,i<ops.size->B i=true)/\
    Steps P (lone (F.mk' tmps dfs (.inRegion a (match(Region.ready .any a listed)[t%(Region.ready .any a listed).length]? with
    |some i=>Region.linearise.go .any a f (t/(Region.ready .any a listed).length) (listed.setIfInBounds i true) [i]
    |none=>[].reverse)::k)) cs w) (lone (F.mk' d dfs (.inRegion a []::k)) cs w')
   have Z:0<(Region.ready .any a listed).length:=List.length_pos_iff.2 ak
   have hlt:=Nat.mod_lt t Z
   rw [Xj hlt]
   simp only []
   generalize G:(Region.ready .any a listed)[t%(Region.ready .any a listed).length]=i
   have aL:i∈Region.ready .any a listed:=by rw [<-G];exact Xw hlt
   obtain⟨z,s,A⟩:=U i aL
   have ad:=Q i z
   have u:ops[l i]? =some ops[l i]:=zM ad
   have hr:=A _ u
   rw [linearise_go_acc,List.reverse_singleton,List.singleton_append]
   obtain⟨a0,w1,J,af,ai⟩:=inv_step ok hc hcode D dk K N y g.same C hd u hr (by show dg listed (σ (l i))=false;rw [g.st];exact s) (F:=F) (dfs:=dfs) (k:=k) (cs:=cs)
    (rest:=Region.linearise.go .any a f (t/(Region.ready .any a listed).length) (listed.setIfInBounds i true) [])
   rw [g.st]at ai
   have hS:(fun p=>dg (listed.setIfInBounds i true) (σ p))=mj (fun p=>dg listed (σ p)) (l i):=by
    funext p
    rw [y9 (listed:=listed) (p:=i) (by omega)]
    by_cases e:p=l i
    . subst e
      rw [g.st,gK,gK]
    . rw [bN _ e,bN _ (by intro e2;exact e (by rw [<-e2,g.ts]))]
   obtain⟨B,r,w',d,g1,g2,g3⟩:=go_sim dk K N y g f (t/(Region.ready .any a listed).length) (listed.setIfInBounds i true) a0 w1 J (by simpa using O)
    (by rw [hS];exact down_add D hd u hr) (by rw [hS];have:=vU (S:=fun p=>dg listed (σ p)) (p:=l i) (by show dg listed (σ (l i))=false;rw [g.st];exact s) ad;omega) (by rw [hS];exact af)
   exact⟨B,r,w',d,g1,g2,Steps.trans ai g3⟩

include ok hc hcode in
theorem draw_ok:DrawOk E P R:=by
 intro cx id d l h l' h' q ps tr hp he Y A w F bb G dfs a2 k s
 obtain⟨ops,σ,τ,hC,od⟩:=hoist_ord d
 rw [<-hC]at hp he
 obtain⟨M,bc,a3⟩:=plan_ok hp
 obtain⟨_,L,H,T,X,Z,f,O,Q,ad,af,a4⟩:=ye _ _ _ _ _ _ _ _ he
 rw [Xe,Array.length_toList]at O Q
 have D:DT E R ops q ps M L H T X:=by
  refine⟨bc,fun n o r h4=>?_,fun n o m i p r hm V bd I=>?_,fun i o r=>?_,fun {i j a b o p} z r hp ro rp ha I=>?_,fun {i j a o p} z r hp ro rp hx hh ha=>?_⟩
  . exact(a3 n o (by rw [Xa];exact r)).1 h4
  . exact(a3 n o (by rw [Xa];exact r)).2 m hm i p V (by rw [Xa];exact bd) I
  . have:=ad i o (by rw [Xa];exact r)
    rwa [Xe]at this
  . have e1:=af i o a (by rw [Xa];exact r) ro (by rw [Xe];exact ha)
    have e2:=af j p b (by rw [Xa];exact hp) rp (by rw [Xe];exact I)
    rw [Xe]at e1 e2
    have:=qm Y z
    rw [e1,e2]at this
    intro e
    subst e
    simp [jm,Xv]at this
  . have e1:=af i o a (by rw [Xa];exact r) ro (by rw [Xe];exact ha)
    have e2:=a4 j p (by rw [Xa];exact hp) rp (by rw [Xe];exact hx) (by rw [Xe];exact hh)
    rw [Xe]at e1 e2
    rcases z with z|z
    . have:=qm Y z
      rw [e1,e2]at this
      exact u7 this
    . have:=qm Y z
      rw [e1,e2]at this
      exact u7 this
 let w0:World:={w with drawn:=w.drawn+1}
 have B:aF A h w0:=qZ s.hr rfl
 have e0:Ext A h w A h w0:=sg s.hr rfl rfl rfl rfl
 have a5:oD cx.nr A w0 L H 0:=⟨A,w0,G,by rw [f];exact B,s.glob,by rw [Z];exact s.regs,by rw [f];exact Ext.refl A h w0 B⟩
 have ai: ∀i,i<=ops.size->oD cx.nr A w0 L H i:=fun i V=>(shadow ok hc hcode D i V a5).1
 have dk: ∀j o,j<ops.size->ops[j]? =some o->Turn ops E X q H T j o:=fun j o hj r=>(shadow ok hc hcode D ops.size (Xc _) a5).2 j o hj r
 have a6: ∀b,A b≠ .none->b<(H 0).n:=by rw [f];exact s.hr.lt
 have a7: ∀b c u J,A b=.blk c u J->c<w0.heap.size:=fun b c u J hm=>B.clt hm
 have ak: ∀j,j<=ops.size->(H j).t.Sized (H j).n:=fun j hj=>by obtain⟨_,_,_,g,_⟩:=ai j hj;exact g.sized
 have al:(fun p=>dg (Xz d.size false) (σ p))=fun _=>false:=by
  funext i
  simp only [dg,Xf,Array.getElem?_replicate]
  split<;>rfl
 have ba:Inv E ops q L H X cx.nr A w0 (fun _=>false) A w0 G:=by
  obtain⟨c',d1,d2,d3,d4⟩:=next_W (E:=E) (ops:=ops) (q:=q) (X:=X) ops.size 0 (by omega)
  refine⟨⟨c',⟨d2,?_,fun i o V r hw=>absurd hw (d4 i o (Xp _) V r)⟩,?_⟩,s.glob,fun p bn _ b h1 h2=>?_,s.regs.size,fun i V t v aL hv=>?_,by rw [f];exact WExt.refl B,fun p _ C=>by cases C⟩
  . rcases d3 with e|⟨o',be,bf⟩
    . exact .inl e
    . exact .inr ⟨o',be,bf,rfl⟩
  . refine uq (h:=H 0) (by rw [f];exact B) (ak c' d2) (ep dk d1 d2) (fun b I=>stand dk d1 d2 (fun j oj h1 h2 K=>?_) I)
    rcases kinds D K with x|x|x
    . exact .inl x
    . exact .inr x
    . exact absurd x (d4 j oj h1 h2 K)
  . exact B.none_ge (by
     have:=ep dk (Xp p) (by omega)
     rw [f]at this;omega)
  . have N:(L (0+i)).regs.get t=(L 0).regs.get t:=by
     refine walk_eq (fun j=>(L j).regs.get t) (a:=0) i (fun j h1 h2=>?_)
     have K:ops[j]? =some ops[j]:=zM (by omega)
     refine tE D K fun bh=>?_
     have:=(aL j _ K bh).1 (by omega)
     cases this
    rw [Xe]at N
    rw [N,Z]at hv
    exact s.regs.get t v hv
 have S:Region.schedule (P.follows .mixedOrders) d (w.tape w.drawn (.order F.fn id))=Region.linearise.go .any d d.size (w.tape w.drawn (.order F.fn id)) (Xz d.size false) []:=by
  rw [ok.mixed];rfl
 obtain⟨S',U,w',a0,g1,g2,g3⟩:=go_sim ok hc hcode D dk ai a6 a7 od (F:=F) (dfs:=dfs) (k:=k) (cs:=aI a2 bb) d.size (w.tape w.drawn (.order F.fn id)) (Xz d.size false) A w0 G (by simp [od.size])
  (by rw [al];intro i o _ C;cases C) (by rw [al,<-od.size];exact tN _) (by rw [al];exact ba)
 obtain⟨c,hC,hh⟩:=g1.c
 have bi:c=ops.size:=by
  rcases hC.2.1 with e|⟨o,r,_,C⟩
  . exact e
  . rw [g2 c (Array.getElem?_eq_some_iff.1 r).1]at C;cases C
 subst bi
 rw [Q]at hh
 obtain⟨bo,wT,bk,t1,t2,t3,t4⟩:=ai ops.size (Xc _)
 rw [O]at t3
 rw [Q]at t1 t4
 have le:Le A U:=by
  intro b I
  rcases g1.ext.old b (a6 b I)with x|⟨_,x⟩
  . exact .inl x
  . exact .inr x
 have a1: ∀i,i<=ops.size->(L i).dfs=l.dfs/\(L i).rc=l.rc:=by
  intro i
  induction i with
  |zero=>intro _;rw [Z];exact⟨rfl,rfl⟩
  | succ i ih=>
    intro V
    have:=ih (by omega)
    have C:=D.step i ops[i] (zM (by omega))
    generalize L (i+1)=L1 at C⊢
    generalize H (i+1)=H1 at C
    generalize T i=T1 at C
    generalize X i=X1 at C
    cases C with
    |skip hg=>exact⟨(rJ _ _ _).1.trans this.1,(rJ _ _ _).2.trans this.2⟩
    |exec hg bp=>exact⟨(rJ _ _ _).1.trans this.1,(rJ _ _ _).2.trans this.2⟩
 have hk:=a1 ops.size (Xc _)
 rw [O]at hk
 have ext:Ext A h w0 U h' w':=by
  have W:=g1.ext
  rw [f]at W t4
  refine⟨t4.n,W.old,W.fresh,t4.lo,t4.same,W.frame,fun b c u J t sz el hm hg=>?_,W.wsize,W.os,W.tape,W.output,fun b h1 h2=>?_⟩
  . obtain⟨x,y⟩:=W.ro b c u J t sz el hm hg
    exact⟨x,(t4.ro b c u J t sz el hm hg).2.1,y⟩
  . have bl: ∀i,i<=ops.size->b<(H i).n->U b≠ .none:=by
     intro i
     induction i with
     |zero=>intro _ I;rw [f]at I;omega
     | succ i ih=>
       intro V I
       by_cases bm:b<(H i).n
       . exact ih (by omega) bm
       . exact g1.cov i (by omega) (g2 i (by omega)) b (by omega) I
    exact bl ops.size (Xc _) (by rw [Q];exact h2)
 refine⟨U,w',a0,dfs,a2,⟨hh,g1.glob,⟨g1.size,t3.sized,fun i v hv=>?_⟩,?_,?_,s.ko,s.fn,s.rd.mono le,s.rn,s.fs⟩,Ext.trans e0 ext,?_⟩
 . refine g1.regs ops.size (Xc _) i v (fun p o r _=>?_) (by rw [O];exact hv)
   have:=(Array.getElem?_eq_some_iff.1 r).1
   exact⟨fun _=>g2 p this,fun _=>this⟩
 . rw [hk.1];exact LR.mono s.dfs fun _ _=>lN.mono le
 . rw [hk.2];exact s.rc.mono le
 . refine Steps.trans (.one ?_) (Steps.trans g3 (.one qC))
   rw [<-S]
   exact uO
end

end Go.Ab

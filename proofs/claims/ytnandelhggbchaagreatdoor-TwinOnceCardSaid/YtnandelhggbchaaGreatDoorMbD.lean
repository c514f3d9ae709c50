/- A deterministic evaluator of the model's code, and that the model follows it (part 4). -/
import Derived.Test.YtnandelhggbchaaGreatDoorMbC
open Nat renaming eq_of_beq_eq_true->zM,lt_of_lt_of_le->Xf,le_refl->Xg,lt_or_ge->Xh,lt_trichotomy->Xi,le_trans->Xl,beq->Xm,le_of_ble_eq_true->Xp,blt_eq->Xr,add_zero->Xs,zero_add->Xt,beq_refl->Xu,zero_le->Xx,lor->Xy,ble->Xz,ble_eq_true_of_le->XA
open Array renaming getElem?_eq_getElem->zN,getElem?_toList->Xb,getD_eq_getD_getElem?->Xq,getElem?_eq_none->Xw,getElem?_push->XC
open Bool renaming and_eq_true->Xa,or_eq_true->Xk,not_eq_true'->Xn
open List renaming mem_cons_of_mem->Xc,getElem?_eq_getElem->Xd,mem_cons_self->Xe,getElem?_eq_none->Xj,length_cons->Xo,getElem?_cons_succ->Xv,mem_of_getElem?->XB
set_option maxHeartbeats 400000
set_option linter.defProp false
set_option linter.unusedVariables false
set_option linter.unusedSimpArgs false
namespace Go.Ab

theorem li{a b:Value}(h:bH a b=some true):a=b:=by
 unfold bH at h
 cases a<;>(try (simp at h;done))<;>cases b<;>(try (simp at h;done))
 . rename_i x y
   cases x<;>cases y<;>simp at h<;>rfl
 . rename_i k x d y
   simp only []at h
   rw [fQ,gI]at h
   by_cases c:k=d
   . subst c;simp at h;subst h;rfl
   . simp [c]at h
 . rename_i s u
   simp only []at h
   rw [iR]at h
   simp at h
   have:s=u:=by cases s;cases u;simp [aF]at h;simp [h]
   subst this;rfl
 . rename_i x y
   simp only []at h
   have:=(pC _ _ h).2.2.2.1 rfl
   cases x;cases y;simp at this;simp [this]
theorem wQ{kd:IntKind}: ∀(l m:List Value),(∀v∈l,∃x,v=.int kd x)->(∀v∈m,∃x,v=.int kd x)->l.length=m.length-> ∃r,cS l m=some r
 | [],[],_,_,_=>⟨true,rfl⟩
 | a::l,b::m,c,d,h3=>by
   obtain⟨x,rfl⟩:=c a (by simp)
   obtain⟨y,rfl⟩:=d b (by simp)
   obtain⟨r,e⟩:=wQ l m (fun v h=>c v (by simp [h])) (fun v h=>d v (by simp [h])) (by simpa using h3)
   refine⟨bif gX x y then r else false,?_⟩
   simp only [cS,e,fQ,decide_true,cond_true]
 | [],_::_,_,_,h=>by simp at h
 |_::_,[],_,_,h=>by simp at h
theorem qs{E:Env}{kt:TypeId}{a b:Value}(c:aP E kt a=true)(e:aP E kt b=true): ∃r,bH a b=some r:=by
 unfold aP at c e
 cases f:E.und kt with
 |none=>simp [f]at c
 | some d=>
   cases g:gp d with
   | true=>
     cases d<;>simp only [gp]at g<;>try (cases g;done)
     obtain⟨p,q,rfl,_,_,i,j,l⟩:=kH (E:=E) (kt:=kt) (k:=a) f (by unfold aP;exact c)
     obtain⟨s,m,rfl,_,_,n,h,o⟩:=kH (E:=E) (kt:=kt) (k:=b) f (by unfold aP;exact e)
     rw [j]at h
     cases h
     exact wQ _ _ l o (by rw [i,n])
   |false=>
   simp only [f]at c e
   cases d<;>simp only []at c e<;>(try (cases c;done))<;>(try (cases g;done))
   . cases a<;>simp only []at c<;>try (cases c;done)
     cases b<;>simp only []at e<;>try (cases e;done)
     exact⟨_,rfl⟩
   . cases a<;>simp only []at c<;>try (cases c;done)
     cases b<;>simp only []at e<;>try (cases e;done)
     rw [fQ]at c e
     simp only [decide_eq_true_eq]at c e
     subst c;subst e
     rename_i x y
     refine⟨gX x y,?_⟩
     unfold bH
     simp only []
     rw [fQ]
     simp
   . cases a<;>simp only []at c<;>try (cases c;done)
     cases b<;>simp only []at e<;>try (cases e;done)
     exact⟨_,rfl⟩
theorem vJ{k v:Value}{n:Nat}: ∀{a:List (Value×Value×Nat)},aN k a=some (some (v,n))->iE k v a=a
 | [],h=>by cases h
 | (d,e,f)::l,h=>by
   simp only [aN,iE]at h⊢
   cases c:bH k d with
   |none=>rw [c]at h;cases h
   | some b=>
     rw [c]at h
     cases b with
     |true=>simp only []at h⊢;cases h;rw [li c]
     |false=>simp only []at h⊢;rw [vJ h]
theorem rG{k a z:Value}{c:Nat}: ∀(d:List (Value×Value×Nat)),aN k (d++[(a,z,c)])=(match aN k d with
 |none=>none
 |some (some x)=>some (some x)
 | some none=>match bH k a with
   |none=>none
   |some true=>some (some (z,c))
   |some false=>some none)
 | []=>by
   simp only [List.nil_append,aN]
   cases bH k a with
   |none=>rfl
   |some b=>cases b<;>rfl
 | (e,f,g)::l=>by
   simp only [List.cons_append,aN]
   cases h:bH k e with
   |none=>rfl
   | some b=>
     cases b with
     |true=>rfl
     |false=>simp only [];exact rG l

theorem look_ent {E:Env} {t:TypeId} {m k:Operand} {ρ:Operand->Value} {h j:Hp} {nx:c8} (f:aop E ρ h (.mapEntry t m k)=some (nx,j)) (n l:Value):
 ce E j t n l false=ce E h t n l false:=by
 obtain⟨v,d⟩: ∃v,ic E h t (ρ m) (ρ k)=some (j,v):=by
  simp only [aop]at f
  cases s:ic E h t (ρ m) (ρ k)with
  |none=>rw [s]at f;cases f
  |some q=>rw [s]at f;obtain⟨a,b⟩:=q;cases f;exact⟨b,rfl⟩
 unfold ic at d
 split at d
 next=>cases d
 next r u c el w=>
  obtain⟨D,o,x,A,B⟩:=m8 w
  have e:(h.get r).isSome=true:=by rw [o];rfl
  unfold ce
  simp only [A]
  cases hf:aP E x l with
  |false=>rfl
  | true =>
    simp only [cond_true,cond_false]
    cases n<;>(try rfl)
    rename_i g
    cases g with
    |none=>rfl
    | some g =>
      simp only []
      by_cases p:r=g
      . subst p
        split at d
        next=>cases d
        next F G i=>
         cases d
         rw [Hp.get_put,if_pos ⟨rfl,e⟩,o,vJ i]
        next i=>
         split at d
         next=>cases d
         next z H=>
          cases d
          rw [Hp.get_put,if_pos ⟨rfl,e⟩,o]
          simp only []
          rw [rG]
          cases aN l u with
          |none=>rfl
          | some y=>
            cases y with
            |some y=>rfl
            | none=>
              simp only []
              obtain⟨b,C⟩:=qs hf B
              rw [C]
              cases b with
              |true=>simp only []
              |false=>rfl
      . have:j.get g=h.get g:=by
         split at d
         next=>cases d
         next=>cases d;exact cd p
         next=>
          split at d
          next=>cases d
          next=>cases d;exact cd p
        rw [this]

def cut(mu:Mu)(n:Nat):Mu:=fun b=>if b<n then mu b else .none
theorem dT{mu:Mu}{n b:Nat}(h:b<n):cut mu n b=mu b:=by simp [cut,h]
theorem nf{mu:Mu}{n b:Nat}(h:n<=b):cut mu n b=.none:=by simp [cut,Nat.not_lt.2 h]
theorem eg.in{mu:Mu}{a b:Addr}(h:eg mu a b):mu a.block≠ .none:=by
 intro e;unfold eg at h;rw [e]at h;exact h
theorem dE.in{mu:Mu}{a b:Addr}{c c':Nat}(h:dE mu a c b c'):mu a.block≠ .none:=by
 intro e;unfold dE at h;rw [e]at h;exact h
theorem dp.in{mu:Mu}{b c:Nat}(h:dp mu b c):mu b≠ .none:=by
 intro e;unfold dp at h;rw [e]at h;exact h
theorem eg.cut{mu:Mu}{n:Nat}{a b:Addr}(h:eg mu a b)(c:a.block<n):eg (cut mu n) a b:=by
 unfold eg at*;rw [dT c];exact h
theorem dE.cut{mu:Mu}{n:Nat}{a b:Addr}{c c':Nat}(h:dE mu a c b c')(d:a.block<n):dE (cut mu n) a c b c':=by
 unfold dE at*;rw [dT d];exact h
theorem dp.cut{mu:Mu}{n:Nat}{b c:Nat}(h:dp mu b c)(a:b<n):dp (cut mu n) b c:=by
 unfold dp at*;rw [dT a];exact h
theorem ao.cut{mu o:Mu}{n:Nat}(r: ∀b,o b≠ .none->b<n){v w:Value}(x:ao o v w): ∀{v':Value},ao mu v v'->ao (cut mu n) v v':=by
 induction x with
 |poison v=>intro v' _;exact .poison v'
 |bool b=>intro v' h;cases h;exact .bool b
 |int k m=>intro v' h;cases h;exact .int k m
 |string s=>intro v' h;cases h;exact .string s
 |nilp=>intro v' h;cases h;exact .nilp
 |ptr a=>intro v' h;cases h;rename_i c;exact .ptr (c.cut (r _ a.in))
 |nils=>intro v' h;cases h;exact .nils
 |slice l a=>intro v' h;cases h;rename_i f c;exact .slice c (f.cut (r _ a.in))
 |nilm=>intro v' h;cases h;exact .nilm
 |map a=>intro v' h;cases h;rename_i c;exact .map (c.cut (r _ a.in))
 | fn p t y C q z=>
   intro v' h
   cases h
   rename_i c f A B
   refine .fn c (fun i u g d e=>?_) A (fun i u g d e=>?_)
   . have j:=Xd (l:=_) (i:=i) (by rw [<-p];exact(List.getElem?_eq_some_iff.1 d).1)
     exact q i u _ d j (f i u g d e)
   . have j:=Xd (l:=_) (i:=i) (by rw [<-y];exact(List.getElem?_eq_some_iff.1 d).1)
     exact z i u _ d j (B i u g d e)
 |yield a=>intro v' h;cases h;rename_i c;exact .yield (c.cut (r _ a.in))
 |nilf=>intro v' h;cases h;exact .nilf
 |nili=>intro v' h;cases h;exact .nili
 |iface _ i=>intro v' h;cases h;rename_i c;exact .iface (i c)
 | agg p t q=>
   intro v' h
   cases h
   rename_i c f
   refine .agg c (fun i u g d e=>?_)
   have j:=Xd (l:=_) (i:=i) (by rw [<-p];exact(List.getElem?_eq_some_iff.1 d).1)
   exact q i u _ d j (f i u g d e)
 | tuple p t q=>
   intro v' h
   cases h
   rename_i c f
   refine .tuple c (fun i u g d e=>?_)
   have j:=Xd (l:=_) (i:=i) (by rw [<-p];exact(List.getElem?_eq_some_iff.1 d).1)
   exact q i u _ d j (f i u g d e)
end Go.Ab

namespace Go.Ab

def Sub(q a:Nat):Prop:= ∀i,q.testBit i=true->a.testBit i=true
theorem cH(a b i:Nat):(Xy a b).testBit i=(a.testBit i||b.testBit i):=Nat.testBit_or a b i
theorem gD(n i:Nat):(Nat.pow 2 n).testBit i=decide (n=i):=Nat.testBit_two_pow
def binds(e:Edge):Bool:=Region.binds .any e

def pj(ops:List Oper)(M:List Nat)(i:Nat):Prop:= ∀o,ops[i]? =some o-> ∃m,M[i]? =some m/\(∀e∈o.after.toList,binds e=true->e.on<i)/\
 ∀b,m.testBit b=true-> ∃e∈o.after.toList,binds e=true/\(b=e.on\/ ∃a,M[e.on]? =some a/\a.testBit b=true)

theorem zn (acc:List Nat): ∀(f:List Edge) (o:Option Nat) (m:Nat),f.foldl (fun s e=>match s with
 |none=>none
 | some s=>match e.ground with
   | .textOnly _=>some s
   | .gcOnly _=>some s
   | _=>match acc[acc.length-1-e.on]? with
     |none=>none
     |some m=>bif Nat.blt e.on acc.length then some (Xy (Xy s (Nat.pow 2 e.on)) m)else none) o=some m->
 ∃ s,o=some s/\(∀e∈f,binds e=true->e.on<acc.length)/\
   ∀b,m.testBit b=true->s.testBit b=true\/ ∃e∈f,binds e=true/\(b=e.on\/ ∃g,acc.reverse[e.on]? =some g/\g.testBit b=true)
 | [],o,m,h=>⟨m,h,by simp,fun b l=>.inl l⟩
 | e :: f,o,m,h=>by
   rw [List.foldl_cons]at h
   obtain⟨t,j,u,h3⟩:=zn acc f _ m h
   cases o with
   |none=>cases j
   | some s=>
     refine⟨s,rfl,?_⟩
     have skip:binds e=false->t=s->(∀c∈e::f,binds c=true->c.on<acc.length)/\
      ∀b,m.testBit b=true->s.testBit b=true\/ ∃c∈e::f,binds c=true/\(b=c.on\/ ∃g,acc.reverse[c.on]? =some g/\g.testBit b=true):=by
      intro l v
      subst v
      refine⟨fun c a d=>?_,fun b k=>?_⟩
      . rcases List.mem_cons.1 a with rfl|a
        . rw [l]at d;cases d
        . exact u c a d
      . rcases h3 b k with x|⟨c,a,x⟩
        . exact .inl x
        . exact .inr ⟨c,Xc _ a,x⟩
     have p:binds e=true->(match acc[acc.length-1-e.on]? with
      |none=>none
      |some m=>bif Nat.blt e.on acc.length then some (Xy (Xy s (Nat.pow 2 e.on)) m)else none)=some t->(∀c∈e::f,binds c=true->c.on<acc.length)/\
      ∀b,m.testBit b=true->s.testBit b=true\/ ∃c∈e::f,binds c=true/\(b=c.on\/ ∃g,acc.reverse[c.on]? =some g/\g.testBit b=true):=by
      intro l n
      split at n
      next=>cases n
      next m0 r=>
       cases hlt:Nat.blt e.on acc.length with
       |false=>rw [hlt]at n;cases n
       | true=>
         rw [hlt]at n
         cases n
         have i:e.on<acc.length:=by simpa [Xr]using hlt
         refine⟨fun c a d=>?_,fun b k=>?_⟩
         . rcases List.mem_cons.1 a with rfl|a
           . exact i
           . exact u c a d
         . rcases h3 b k with x|⟨c,a,x⟩
           . rw [cH,cH,gD]at x
             simp only [Xk,decide_eq_true_eq]at x
             rcases x with(x|x)|x
             . exact .inl x
             . exact .inr ⟨e,Xe,l,.inl x.symm⟩
             . exact .inr ⟨e,Xe,l,.inr ⟨m0,by rw [List.getElem?_reverse i];exact r,x⟩⟩
           . exact .inr ⟨c,Xc _ a,x⟩
     cases q:e.ground<;>rw [q]at j
     case textOnly=>simp only [Option.some.injEq]at j;exact skip (by simp [binds,Region.binds,q]) j.symm
     case gcOnly=>simp only [Option.some.injEq]at j;exact skip (by simp [binds,Region.binds,q]) j.symm
     all_goals exact p (by simp [binds,Region.binds,q]) j

theorem sc: ∀(os:List Oper) (acc a:List Nat),befs os acc=some a->a.length=acc.length+os.length/\(∀i,i<acc.length->a.reverse[i]? =acc.reverse[i]?)/\
 ∀ j o,os[j]? =some o-> ∃m,a.reverse[acc.length+j]? =some m/\(∀e∈o.after.toList,binds e=true->e.on<acc.length+j)/\
   ∀b,m.testBit b=true-> ∃e∈o.after.toList,binds e=true/\(b=e.on\/ ∃g,a.reverse[e.on]? =some g/\g.testBit b=true)
 | [],acc,a,h=>by cases h;exact⟨rfl,fun _ _=>rfl,fun j o q=>by simp at q⟩
 | o :: os,acc,a,h=>by
   simp only [befs]at h
   split at h
   next=>cases h
   next s r=>
    obtain⟨C,t,l,u⟩:=zn acc _ _ _ r
    cases t
    obtain⟨v,n,w⟩:=sc os (s::acc) a h
    have c: ∀i,i<acc.length->a.reverse[i]? =acc.reverse[i]? :=by
     intro i y
     rw [n i (by simp;omega),List.reverse_cons,List.getElem?_append_left (by simpa using y)]
    refine⟨by rw [v];simp;omega,c,fun j z d=>?_⟩
    cases j with
    | zero=>
      simp at d
      subst d
      refine⟨s,?_,l,fun b A=>?_⟩
      . rw [Xs,n acc.length (by simp),List.reverse_cons,List.getElem?_append_right (by simp)]
        simp
      . rcases u b A with x|⟨e,p,f,x⟩
        . simp at x
        . refine⟨e,p,f,?_⟩
          rcases x with x|⟨g,k,x⟩
          . exact .inl x
          . exact .inr ⟨g,by rw [c _ (l e p f)];exact k,x⟩
    | succ j=>
      obtain⟨m,m1,m2,m3⟩:=w j z (by simpa using d)
      have B:(s::acc).length+j=acc.length+(j+1):=by simp;omega
      rw [B]at m1 m2
      exact⟨m,m1,m2,m3⟩

def Owe(E:Env)(ops:List Oper)(o p:Oper)(i n q:Nat)(l:List (Nat×Nat)):Prop:=
 rb ops o p=true/\(cls E o.op=0\/cls E p.op=0\/(cls E o.op=1/\cls E p.op=1)\/(cls E o.op=2/\cls E p.op=1/\(jc o.op p.op=true\/(i,n)∈l))\/
  (cls E o.op=1/\cls E p.op=2/\(jc p.op o.op=true\/(i,n)∈l))\/(cls E o.op=5/\cls E p.op=1/\(i,n)∈l)\/(cls E o.op=1/\cls E p.op=5/\(i,n)∈l)\/
  (cls E o.op≠2/\cls E p.op≠2/\(cls E p.op=3\/cls E p.op=5->q.testBit i=true)/\(cls E o.op=3\/cls E o.op=5->q.testBit n=true))\/
  (cls E o.op=3/\cls E p.op=1/\di o.op=true/\(i,n)∈l)\/(cls E o.op=1/\cls E p.op=3/\di p.op=true/\(i,n)∈l)\/(cls E o.op=3/\cls E p.op=4/\di o.op=true/\dR p.op=true/\(i,n)∈l)\/
  (cls E o.op=2/\cls E p.op=3/\mV ops o n i=true/\q.testBit i=true))
theorem Owe.mono{E:Env}{ops:List Oper}{o p:Oper}{i n q f:Nat}{l l':List (Nat×Nat)}(hq:Sub q f)(e: ∀x∈l,x∈l')(h:Owe E ops o p i n q l):Owe E ops o p i n f l':=by
 obtain⟨g,j⟩:=h
 refine⟨g,?_⟩
 rcases j with h|h|h|⟨a,b,h⟩|⟨a,b,h⟩|⟨a,b,h⟩|⟨a,b,h⟩|⟨a,b,c,d⟩|⟨a,b,c,h⟩|⟨a,b,c,h⟩|⟨a,b,c,d,h⟩|⟨a,b,c,h⟩
 . exact .inl h
 . exact .inr (.inl h)
 . exact .inr (.inr (.inl h))
 . exact .inr (.inr (.inr (.inl ⟨a,b,h.imp id (e _)⟩)))
 . exact .inr (.inr (.inr (.inr (.inl ⟨a,b,h.imp id (e _)⟩))))
 . exact .inr (.inr (.inr (.inr (.inr (.inl ⟨a,b,e _ h⟩)))))
 . exact .inr (.inr (.inr (.inr (.inr (.inr (.inl ⟨a,b,e _ h⟩))))))
 . exact .inr (.inr (.inr (.inr (.inr (.inr (.inr (.inl ⟨a,b,fun x=>hq _ (c x),fun x=>hq _ (d x)⟩)))))))
 . exact .inr (.inr (.inr (.inr (.inr (.inr (.inr (.inr (.inl ⟨a,b,c,e _ h⟩))))))))
 . exact .inr (.inr (.inr (.inr (.inr (.inr (.inr (.inr (.inr (.inl ⟨a,b,c,e _ h⟩)))))))))
 . exact .inr (.inr (.inr (.inr (.inr (.inr (.inr (.inr (.inr (.inr (.inl ⟨a,b,c,d,e _ h⟩))))))))))
 . exact .inr (.inr (.inr (.inr (.inr (.inr (.inr (.inr (.inr (.inr (.inr ⟨a,b,c,hq _ h⟩))))))))))

theorem owed_ok {E:Env} {ops:List Oper} {o:Oper} {m n:Nat}: ∀(ps:List Oper) (i:Nat) (q:Nat) (l:List (Nat×Nat)) (g:Nat) (l':List (Nat×Nat)),iM E ops o m n ps i (q,l)=some (g,l')->
 Sub q g/\(∀x∈l,x∈l')/\ ∀j p,ps[j]? =some p->m.testBit (i+j)=false->Owe E ops o p (i+j) n g l'
 | [],i,q,l,g,l',h=>by cases h;exact⟨fun _ x=>x,fun _ x=>x,fun j p y=>by simp at y⟩
 | p :: ps,i,q,l,g,l',h=>by
   have next: ∀{s:Nat} {t:List (Nat×Nat)},iM E ops o m n ps (i+1) (s,t)=some (g,l')->Sub q s->(∀x∈l,x∈t)->(m.testBit i=false->Owe E ops o p i n s t)->
    Sub q g/\(∀x∈l,x∈l')/\ ∀j u,(p::ps)[j]? =some u->m.testBit (i+j)=false->Owe E ops o u (i+j) n g l':=by
    intro s t z A B C
    obtain⟨v,w,D⟩:=owed_ok ps (i+1) s t g l' z
    refine⟨fun x a=>v x (A x a),fun x a=>w x (B x a),fun j u k r=>?_⟩
    cases j with
    | zero=>
      simp at k
      subst k
      exact(C r).mono v w
    | succ j=>
      have:=D j u (by simpa using k) (by rw [show i+1+j=i+(j+1) by omega];exact r)
      rwa [show i+1+j=i+(j+1) by omega]at this
   simp only [iM]at h
   cases r:m.testBit i with
   | true=>
     rw [r]at h
     exact next h (fun _ x=>x) (fun _ x=>x) (fun hf=>by rw [r]at hf;cases hf)
   | false=>
     rw [r]at h
     simp only [cond_false]at h
     cases d:rb ops o p with
     |false=>rw [d]at h;cases h
     | true=>
       rw [d]at h
       simp only [cond_true]at h
       split at h
       next c=>exact next h (fun _ x=>x) (fun _ x=>x) (fun _=>⟨d,.inl c⟩)
       next b _=>exact next h (fun _ x=>x) (fun _ x=>x) (fun _=>⟨d,.inr (.inl b)⟩)
       next c b=>exact next h (fun _ x=>x) (fun _ x=>x) (fun _=>⟨d,.inr (.inr (.inl ⟨c,b⟩))⟩)
       next c b=>
        refine next h (fun _ x=>x) ?_ (fun _=>⟨d,.inr (.inr (.inr (.inl ⟨c,b,?_⟩)))⟩)
        . intro x a;cases jc o.op p.op<;>simp [a]
        . cases jc o.op p.op<;>simp
       next c b=>
        refine next h (fun _ x=>x) ?_ (fun _=>⟨d,.inr (.inr (.inr (.inr (.inl ⟨c,b,?_⟩))))⟩)
        . intro x a;cases jc p.op o.op<;>simp [a]
        . cases jc p.op o.op<;>simp
       next c b=>
        exact next h (fun _ x=>x) (fun x a=>Xc _ a) (fun _=>⟨d,.inr (.inr (.inr (.inr (.inr (.inl ⟨c,b,Xe⟩)))))⟩)
       next c b=>
        exact next h (fun _ x=>x) (fun x a=>Xc _ a) (fun _=>⟨d,.inr (.inr (.inr (.inr (.inr (.inr (.inl ⟨c,b,Xe⟩))))))⟩)
       next c b=>
        cases f:di o.op with
        | true=>
          rw [f]at h
          exact next h (fun _ x=>x) (fun x a=>Xc _ a) (fun _=>⟨d,.inr (.inr (.inr (.inr (.inr (.inr (.inr (.inr (.inl ⟨c,b,f,Xe⟩))))))))⟩)
        | false=>
          rw [f]at h
          refine next h (fun x a=>by rw [cH,a];simp) (fun _ x=>x) (fun _=>⟨d,.inr (.inr (.inr (.inr (.inr (.inr (.inr (.inl ⟨by omega,by omega,fun e=>by omega,fun _=>?_⟩)))))))⟩)
          rw [cH,gD];simp
       next c b=>
        cases f:di p.op with
        | true=>
          rw [f]at h
          exact next h (fun _ x=>x) (fun x a=>Xc _ a) (fun _=>⟨d,.inr (.inr (.inr (.inr (.inr (.inr (.inr (.inr (.inr (.inl ⟨c,b,f,Xe⟩)))))))))⟩)
        | false=>
          rw [f]at h
          refine next h (fun x a=>by rw [cH,a];simp) (fun _ x=>x) (fun _=>⟨d,.inr (.inr (.inr (.inr (.inr (.inr (.inr (.inl ⟨by omega,by omega,fun _=>?_,fun e=>by omega⟩)))))))⟩)
          rw [cH,gD];simp
       next c b=>
        cases f:di o.op&&dR p.op with
        | true=>
          rw [f]at h
          simp only [Xa]at f
          exact next h (fun _ x=>x) (fun x a=>Xc _ a) (fun _=>⟨d,.inr (.inr (.inr (.inr (.inr (.inr (.inr (.inr (.inr (.inr (.inl ⟨c,b,f.1,f.2,Xe⟩))))))))))⟩)
        | false=>
          rw [f]at h
          refine next h (fun x a=>by rw [cH,a];simp) (fun _ x=>x) (fun _=>⟨d,.inr (.inr (.inr (.inr (.inr (.inr (.inr (.inl ⟨by omega,by omega,fun e=>by omega,fun _=>?_⟩)))))))⟩)
          rw [cH,gD];simp
       next c b=>
        cases f:mV ops o n i with
        | true=>
          rw [f]at h
          refine next h (fun x a=>by rw [cH,a];simp) (fun _ x=>x) (fun _=>⟨d,.inr (.inr (.inr (.inr (.inr (.inr (.inr (.inr (.inr (.inr (.inr ⟨c,b,f,?_⟩))))))))))⟩)
          rw [cH,gD];simp
        |false=>rw [f]at h;cases h
       next=>cases h
       next=>cases h
       next=>
        refine next h ?_ (fun _ x=>x) (fun _=>⟨d,.inr (.inr (.inr (.inr (.inr (.inr (.inr (.inl ⟨?_,?_,?_,?_⟩)))))))⟩)
        . intro x a
          rw [cH,cH,a];simp
        . exact ‹cls E o.op=2->False›
        . exact ‹cls E p.op=2->False›
        . intro b
          rw [cH]
          have:(Xm (cls E p.op) 3||Xm (cls E p.op) 5)=true:=by rcases b with e|e<;>rw [e]<;>rfl
          rw [this]
          simp [gD]
        . intro b
          rw [cH,cH]
          have:(Xm (cls E o.op) 3||Xm (cls E o.op) 5)=true:=by rcases b with e|e<;>rw [e]<;>rfl
          rw [this]
          simp [gD]
end Go.Ab

namespace Go.Ab

theorem uD {E:Env} {ops:List Oper}: ∀(os:List Oper) (g:List Nat) (n q:Nat) (l:List (Nat×Nat)) (d:Nat) (l':List (Nat×Nat)),rQ E ops os g n (q,l)=some (d,l')->
 Sub q d/\(∀x∈l,x∈l')/\ ∀j o,os[j]? =some o->(cls E o.op=4->d.testBit (n+j)=true)/\
  ∃m,g[j]? =some m/\ ∀i p,i<n+j->ops[i]? =some p->m.testBit i=false->Owe E ops o p i (n+j) d l'
 | [],g,n,q,l,d,l',h=>by cases g<;>(cases h;exact⟨fun _ x=>x,fun _ x=>x,fun j o v=>by simp at v⟩)
 |o::os,[],n,q,l,d,l',h=>by cases h
 | o :: os,m::g,n,q,l,d,l',h=>by
   simp only [rQ]at h
   split at h
   next=>cases h
   next r w y=>
    obtain⟨z,A,B⟩:=owed_ok _ _ _ _ _ _ y
    obtain⟨s,t,C⟩:=uD os g (n+1) _ w d l' h
    have u:Sub r d:=by
     intro x k
     apply s
     cases Xm (cls E o.op) 4 with
     |true=>simp only [cond_true];rw [cH,k];simp
     |false=>exact k
    refine⟨fun x k=>u x (z x k),fun x k=>t x (A x k),fun j D f=>?_⟩
    cases j with
    | zero=>
      simp at f
      subst f
      refine⟨fun F=>?_,m,rfl,fun i p J G H=>?_⟩
      . apply s
        rw [F]
        show(Xy (Nat.pow 2 n) r).testBit (n+0)=true
        rw [cH,gD];simp
      . have:=B i p (by rw [List.getElem?_take,if_pos (by omega)];exact G) (by rw [Xt];exact H)
        rw [Xt]at this
        exact this.mono u t
    | succ j=>
      obtain⟨a,I,b,c⟩:=C j D (by simpa using f)
      have e:n+1+j=n+(j+1):=by omega
      rw [e]at a c
      exact⟨a,I,by simpa using b,c⟩

theorem plan_ok{E:Env}{ops:List Oper}{q:Nat}{ps:List (Nat×Nat)}(h:iS E ops=some (q,ps)):
 ∃ M:List Nat,(∀i,pj ops M i)/\ ∀n o,ops[n]? =some o->(cls E o.op=4->q.testBit n=true)/\
   ∀m,M[n]? =some m-> ∀i p,i<n->ops[i]? =some p->m.testBit i=false->Owe E ops o p i n q ps:=by
 unfold iS at h
 split at h
 next=>cases h
 next g e=>
  obtain⟨_,_,j⟩:=sc _ _ _ e
  obtain⟨_,_,k⟩:=uD _ _ _ _ _ _ _ h
  refine⟨g.reverse,fun i o f=>?_,fun n o f=>?_⟩
  . have:=j i o f
    simpa using this
  . obtain⟨a,m,b,c⟩:=k n o f
    rw [Xt]at a c
    exact⟨a,fun l d=>by rw [b]at d;cases d;exact c⟩

inductive sn(E:Env)(R:Rec)(ops:List Oper)(q i:Nat)(o:Oper)(l:Loc)(h:Hp):Loc->Hp->Option Nat->Bool->Prop
 |skip:bV ops l.regs o=some false->sn E R ops q i o l h (l.put o.dst (.tuple #[])) h none false
 |exec {v:Value} {h':Hp}:bV ops l.regs o=some true->cw E R (l.evD (tmpsOf o.op.operands.toList)) (dQ E q i o.op) o h=some (v,h')->
  sn E R ops q i o l h (l.put o.dst v) h' (ij (l.evD (tmpsOf o.op.operands.toList)) o.op h) true

theorem yq {E:Env} {R:Rec} {ops:List Oper} {q:Nat}: ∀(os:List Oper) (i:Nat) (l:Loc) (h:Hp) (f:List (Nat×Tch)) (l':Loc) (h':Hp) (a:List (Nat×Tch)),a8 E R ops q os i l h f=some (l',h',a)->
 (∀k,k<i->cu k a=cu k f)/\
 ∃ (L:Nat->Loc) (H:Nat->Hp) (T:Nat->Option Nat) (X:Nat->Bool),L i=l/\H i=h/\L (i+os.length)=l'/\H (i+os.length)=h'/\
   (∀j o,os[j]? =some o->sn E R ops q (i+j) o (L (i+j)) (H (i+j)) (L (i+j+1)) (H (i+j+1)) (T (i+j)) (X (i+j)))/\
   (∀j o b,os[j]? =some o->di o.op=false->T (i+j)=some b->cu (i+j) a=some (.blk b))/\
   (∀j o,os[j]? =some o->di o.op=true->X (i+j)=true->dQ E q (i+j) o.op=false->cu (i+j) a=some (.run (H (i+j)) (H (i+j+1))))
 | [],i,l,h,f,l',h',a,g=>by
   cases g
   exact⟨fun _ _=>rfl,fun _=>l,fun _=>h,fun _=>none,fun _=>false,rfl,rfl,rfl,rfl,fun j o s=>by simp at s,fun j o b s=>by simp at s,fun j o s=>by simp at s⟩
 | o :: os,i,l,h,f,l',h',a,g=>by
   have next: ∀{z:Loc} {p:Hp} {d:List (Nat×Tch)} {t:Option Nat} {x:Bool} {nt:Option Tch},a8 E R ops q os (i+1) z p d=some (l',h',a)->d=gw i f nt->sn E R ops q i o l h z p t x->
    (di o.op=false-> ∀b,t=some b->nt=some (.blk b))->(di o.op=true->x=true->dQ E q i o.op=false->nt=some (.run h p))->
    (∀k,k<i->cu k a=cu k f)/\
    ∃ (L:Nat->Loc) (H:Nat->Hp) (T:Nat->Option Nat) (X:Nat->Bool),L i=l/\H i=h/\L (i+(o::os).length)=l'/\H (i+(o::os).length)=h'/\
      (∀j o',(o::os)[j]? =some o'->sn E R ops q (i+j) o' (L (i+j)) (H (i+j)) (L (i+j+1)) (H (i+j+1)) (T (i+j)) (X (i+j)))/\
      (∀j o' b,(o::os)[j]? =some o'->di o'.op=false->T (i+j)=some b->cu (i+j) a=some (.blk b))/\
      (∀j o',(o::os)[j]? =some o'->di o'.op=true->X (i+j)=true->dQ E q (i+j) o'.op=false->cu (i+j) a=some (.run (H (i+j)) (H (i+j+1)))):=by
    intro z p d t x nt B u I J K
    obtain⟨D,L,H,T,X,M,F,N,O,P,Q,S⟩:=yq os (i+1) z p d l' h' a B
    have m: ∀k,k<i->cu k d=cu k f:=by
     intro k G
     rw [u]
     cases nt with
     |none=>rfl
     | some b=>
       show(bif Xm k i then some b else cu k f)=_
       rw [bN,decide_eq_false (by omega)];rfl
    have w: ∀e,nt=some e->cu i a=some e:=by
     intro e U
     rw [D i (by omega),u,U]
     show(bif Xm i i then some e else cu i f)=_
     rw [Xu];rfl
    refine⟨fun k G=>(D k (by omega)).trans (m k G),fun k=>if k=i then l else L k,fun k=>if k=i then h else H k,fun k=>if k=i then t else T k,fun k=>if k=i then x else X k,by simp,by simp,?_,?_,?_,?_,?_⟩
    . show(if i+(o::os).length=i then l else L (i+(o::os).length))=l'
      rw [Xo,if_neg (by omega),<-N];congr 1;omega
    . show(if i+(o::os).length=i then h else H (i+(o::os).length))=h'
      rw [Xo,if_neg (by omega),<-O];congr 1;omega
    . intro j o' c
      cases j with
      | zero=>
        simp at c
        subst c
        simp only [Xs,if_true,if_neg (show¬i+1=i by omega)]
        rw [M,F];exact I
      | succ j=>
        have:=P j o' (by simpa using c)
        have e:i+1+j=i+(j+1):=by omega
        rw [e]at this
        simp only [if_neg (show¬i+(j+1)=i by omega),if_neg (show¬i+(j+1)+1=i by omega)]
        exact this
    . intro j o' b c n r
      cases j with
      | zero=>
        simp at c
        subst c
        simp only [Xs,if_true]at r⊢
        exact w _ (J n b r)
      | succ j=>
        simp only [if_neg (show¬i+(j+1)=i by omega)]at r
        have e:i+1+j=i+(j+1):=by omega
        have:=Q j o' b (by simpa using c) n (by rw [e];exact r)
        rwa [e]at this
    . intro j o' c n A y
      cases j with
      | zero=>
        simp at c
        subst c
        simp only [Xs,if_true,if_neg (show¬i+1=i by omega)]at A y⊢
        rw [F]
        exact w _ (K n A y)
      | succ j=>
        simp only [if_neg (show¬i+(j+1)=i by omega),if_neg (show¬i+(j+1)+1=i by omega)]at A⊢
        have e:i+1+j=i+(j+1):=by omega
        have:=S j o' (by simpa using c) n (by rw [e];exact A) (by rw [e];exact y)
        rwa [e]at this
   simp only [a8]at g
   split at g
   next=>cases g
   next C=>exact next (t:=none) (nt:=none) g rfl (.skip C) (fun _ b e=>by cases e) (fun _ e=>by cases e)
   next C=>
    split at g
    next=>cases g
    next v p V=>
     refine next g rfl (.exec C V) (fun n b r=>?_) (fun n _ y=>?_)
     . unfold bU;rw [n,r];rfl
     . unfold bU;rw [n,y];rfl

theorem qa{b:List (Nat×Tch)}: ∀{ps:List (Nat×Nat)},cg b ps=true-> ∀{i j:Nat},(i,j)∈ps->i7 (cu i b) (cu j b)=true
 | [],_,i,j,a=>by cases a
 | (c,d)::ps,h,i,j,a=>by
   simp only [cg,Xa]at h
   rcases List.mem_cons.1 a with e|a
   . cases e;exact h.1
   . exact qa h.2 a

theorem sT{a b:Addr}(h:sameAddr a b=true):a=b:=by
 unfold sameAddr at h
 simp only [Xa]at h
 obtain⟨⟨f,g⟩,c⟩:=h
 have d:=zM f
 have e:=zM g
 obtain⟨x,y,z⟩:=a
 obtain⟨j,k,i⟩:=b
 simp only []at d e c
 subst d e
 cases z<;>cases i<;>simp at c
 . rfl
 . subst c;rfl
theorem oN{a b:Value}(h:pT a b=true):a=b:=by
 unfold pT at h
 split at h
 next t c=>subst h;exact li c
 next=>
  split at h
  next=>rfl
  next=>rw [sT h]
  next=>
   simp only [Xa]at h
   rw [zM h.1,zM h.2]
  next=>
   simp only [Xa]at h
   rw [sT h.1,zM h.2.1,zM h.2.2]
  next=>rfl
  next=>rw [zM h]
  next=>rfl
  next=>rfl
  next=>cases h
theorem rD: ∀{l m:List Value},q8 l m=true->l=m
 | [],[],_=>rfl
 | [],_::_,h=>by cases h
 |_::_,[],h=>by cases h
 | x::l,y::m,h=>by
   simp only [q8,Xa]at h
   rw [oN h.1,rD h.2]
theorem vw{a b:Value}(h:uv a b=true):a=b:=by
 unfold uv at h
 split at h
 next g x y c d e=>
  simp only [Xa]at h
  rw [zM h.1,Array.toList_inj.1 (rD h.2.1),Array.toList_inj.1 (rD h.2.2)]
 next=>
  simp only [Xa]at h
  rw [zM h.1,oN h.2]
 next=>exact oN h
theorem tv: ∀{t u:Tr Value},sameT t u=true->t=u
 | .nil,.nil,_=>rfl
 | .nil,.node ..,h=>by cases h
 | .node ..,.nil,h=>by cases h
 | .node x l r,.node a b c,h=>by
   simp only [sameT,Xa]at h
   rw [vw h.1,tv h.2.1,tv h.2.2]
theorem zq: ∀{l m:List (Value×Value×Nat)},sameE l m=true->l=m
 | [],[],_=>rfl
 | [],_::_,h=>by cases h
 |_::_,[],h=>by cases h
 | (k,x,n)::l,(a,y,m)::b,h=>by
   simp only [sameE,Xa]at h
   rw [oN h.1,vw h.2.1,zM h.2.2.1,zq h.2.2.2]
theorem sameB_ok{x y:Blk}(h:sameB x y=true):x=y:=by
 unfold sameB at h
 rw [Xk]at h
 rcases h with h|h
 . split at h
   next=>
    simp only [Xa]at h
    rw [tv h.1,zM h.2.1,zM h.2.2.1,zM h.2.2.2]
   next=>
    simp only [Xa]at h
    rw [zM h.1,zq h.2]
   next=>cases h
 . exact @of_decide_eq_true _ (Classical.propDecidable _) h
theorem vW{h h':Hp}{b:Nat}(e:leaves h h' b=true):h'.get b=h.get b:=by
 unfold leaves at e
 split at e
 next a c=>rw [a,c,sameB_ok e]
 next a c=>rw [a,c]
 next=>cases e
theorem sI{h h':Hp}{b:Nat}(e:h'.get b=h.get b):leaves h h' b=true:=by
 unfold leaves
 rw [e]
 cases h.get b with
 |none=>rfl
 | some x=>
   show sameB x x=true
   unfold sameB
   rw [Xk]
   exact .inr (@decide_eq_true _ (Classical.propDecidable _) rfl)
end Go.Ab

namespace Go.Ab

theorem hrel_lo{mu:Mu}{h:Hp}{w:World}(a:aJ mu h w)(x:Nat):aJ mu {h with lo:=x} w:=⟨a.sized,a.blk,a.dead,a.inj,a.lt⟩

theorem xJ{mu:Mu}{ρ d:Operand->Value}(g: ∀x,ao mu (ρ x) (d x)){op:Op}{b:Nat}(e:touch ρ op=some b):mu b≠ .none:=by
 have j: ∀{x:Operand},(match ρ x with| .pointer (some a)=>some a.block|_=>none)=some b->mu b≠ .none:=by
  intro x f
  have:=g x
  split at f
  next a i=>rw [i]at this;cases f;generalize d x=y at this;cases this;rename_i h;exact h.in
  next=>cases f
 have n: ∀{x:Operand},(match ρ x with| .map r=>r|_=>none)=some b->mu b≠ .none:=by
  intro x f
  have:=g x
  split at f
  next r k=>rw [k]at this;subst f;generalize d x=y at this;cases this;rename_i h;exact h.in
  next=>cases f
 have o: ∀{x:Operand},(match ρ x with| .slice (some a) _ _=>some a.block|_=>none)=some b->mu b≠ .none:=by
  intro x f
  have:=g x
  split at f
  next a l c i=>rw [i]at this;cases f;generalize d x=y at this;cases this;rename_i m h;exact m.in
  next=>cases f
 unfold touch at e
 cases op<;>simp only []at e<;>(try (cases e;done))<;>(try exact j e)<;>(try exact n e)<;>(try exact o e)
 split at e
 next x p f=>
  have:=g x
  split at e
  next r k=>rw [k]at this;subst e;generalize d x=y at this;cases this;rename_i h;exact h.in
  next a l c i=>rw [i]at this;cases e;generalize d x=y at this;cases this;rename_i m h;exact m.in
  next=>cases e
 next=>cases e

section
variable{E:Env}{P:Program}(ok:EOk E P){R:Rec}(hc:fW E P R.call)(hcode:iO P R.code)

include ok hc hcode in
theorem oP{mu:Mu}{h h':Hp}{w:World}(s:aJ mu h w)(t:kI mu){ρ:Operand->Value}{tmps:Array Value}(l: ∀x,ao mu (ρ x) (dg tmps x)){F:FC}{dfs:List Deferred}{k:List Item}{cs:List Frame}
 {ops:Array Oper} {i:Nat} {rest:List Nat} {o:Oper} (u:ops[i]? =some o) (y:Region.wanted o (yielded ops tmps)=true) {a:Bool} {v:Value} (f:cw E R ρ a o h=some (v,h')):
 ∃ c w' v',aJ c h' w'/\Ext mu h w c h' w'/\ao c v v'/\(a=true-> ∀b,b<h.n->h'.get b=h.get b)/\
   Steps P (lone (F.mk' tmps dfs (.inRegion ops (i::rest)::k)) cs w) (lone (F.mk' (fd tmps o.dst v') dfs (.inRegion ops rest::k)) cs w'):=by
 cases a with
 | false=>
   simp only [cw,cond_false]at f
   split at f
   next z m n=>
    cases f
    obtain⟨c,w',p,d,v',q,r⟩:=rj ok hc hcode s t l (F:=F) (dfs:=dfs) (k:=k) (cs:=cs) (rest:=rest) u y n
    exact⟨c,w',v',p,d,q,(fun e=>by cases e),r⟩
   next=>cases f
 | true=>
   simp only [cw,cond_true]at f
   split at f
   next z m n=>
    cases j:Xz h.n m.lo with
    |false=>rw [j]at f;cases f
    | true=>
      rw [j]at f
      cases f
      have hle:h.n<=m.lo:=Xp j
      obtain⟨c,w',p,d,v',q,r⟩:=rj ok hc hcode (hrel_lo s h.n) t l (F:=F) (dfs:=dfs) (k:=k) (cs:=cs) (rest:=rest) u y n
      have g: ∀b,b<h.n->m.get b=h.get b:=fun b j=>d.same b j (by omega)
      exact⟨c,w',v',hrel_lo p h.lo,⟨d.n,d.old,d.fresh,Xg _,fun b j _=>g b j,d.frame,d.ro,d.wsize,d.os,d.tape,d.output,d.cover⟩,q,fun _=>g,r⟩
   next=>cases f

theorem mr(t:Nat): ∀l:List Nat,mi t l=true↔t∈l
 | []=>by simp [mi]
 | x ::l=>by
   simp only [mi,Xk,List.mem_cons,mr t l]
   constructor
   . rintro(h|h)
     . exact .inl (zM h)
     . exact .inr h
   . rintro(h|h)
     . subst h;exact .inl (Xu _)
     . exact .inr h
theorem qj(t:Tmp): ∀l:List Operand,t∈tmpsOf l↔ .tmp t∈l
 | []=>by simp [tmpsOf]
 | x::l=>by
   cases x<;>simp [tmpsOf,qj t l]

theorem u5 {mu:Mu} {l:Loc} {n:Nat} {tmps:Array Value} (h:l.regs.Sized n) (c:tmps.size=n) (ts:List Tmp) (j: ∀t∈ts,∀v,l.regs.get t=some v-> ∃v',tmps[t]? =some v'/\ao mu v v')
 (k:kI mu) (x:Operand):ao mu (l.evD ts x) (dg tmps x):=by
 cases x with
 | tmp t=>
   simp only [Loc.evD]
   cases m:mi t ts with
   |false=>exact .poison _
   | true=>
     simp only [cond_true,Loc.ev,dg]
     cases a:l.regs.get t with
     | none=>
       have:n<=t:=by
        rcases Xh t n with b|b
        . obtain⟨v,d⟩:=Tr.get_some h b;rw [d]at a;cases a
        . exact b
       rw [Xq,Xw (by rw [c];exact this)]
       exact .tuple rfl (by intro i v v' a;simp at a)
     | some v=>
       obtain⟨v',b,d⟩:=j t ((mr t ts).1 m) v a
       rw [Xq,b];exact d
 | const v=>
   simp only [Loc.evD,Loc.ev,dg]
   cases hc:cJ v with
   |true=>simp only [cond_true];exact ao.const mu hc
   |false=>simp only [cond_false];exact .poison v
 | global g=>
   simp only [Loc.evD,Loc.ev,dg]
   cases e:Nat.blt g 16 with
   |true=>simp only [cond_true];exact .ptr (k g (by simpa [Xr]using e))
   |false=>simp only [cond_false];exact .poison _
 |func f=>exact .fn rfl (by intro i v v' a;simp at a) rfl (by intro i v v' a;simp at a)

end
end Go.Ab

namespace Go.Ab

theorem cls_le{E:Env}(op:Op):cls E op<=5:=by
 unfold cls
 split<;>(try omega)
 . split<;>omega
 . split<;>omega

theorem wz{E:Env}{op:Op}(h:dR op=true):cls E op=4:=by
 unfold dR at h
 split at h
 . rfl
 . cases h
theorem lD{E:Env}{op:Op}(h:cls E op≠4)(ρ:Operand->Value)(a:Hp):ij ρ op a=touch ρ op:=by
 unfold ij
 cases b:dR op with
 |true=>exact absurd (wz b) h
 |false=>rfl
theorem jJ{E:Env}{op:Op}(h:cls E op≠3):di op=false:=by
 cases op<;>(try rfl)
 rename_i c
 obtain⟨a,b⟩:=c
 cases a<;>first|rfl|(exact absurd rfl h)

structure DT(E:Env)(R:Rec)(ops:Array Oper)(q:Nat)(ps:List (Nat×Nat))(M:List Nat)(L:Nat->Loc)(H:Nat->Hp)(T:Nat->Option Nat)(X:Nat->Bool):Prop where
 bef: ∀i,pj ops.toList M i
 four: ∀(n:Nat) o,ops[n]? =some o->cls E o.op=4->q.testBit n=true
 owe: ∀(n:Nat) o m (i:Nat) p,ops[n]? =some o->M[n]? =some m->i<n->ops[i]? =some p->m.testBit i=false->Owe E ops.toList o p i n q ps
 step: ∀(i:Nat) o,ops[i]? =some o->sn E R ops.toList q i o (L i) (H i) (L (i+1)) (H (i+1)) (T i) (X i)
 pair: ∀{i j a b:Nat} {o p:Oper},(i,j)∈ps->ops[i]? =some o->ops[j]? =some p->di o.op=false->di p.op=false->T i=some a->T j=some b->a≠b
 leave: ∀{i j a:Nat} {o p:Oper},((i,j)∈ps\/(j,i)∈ps)->ops[i]? =some o->ops[j]? =some p->di o.op=false->di p.op=true->X j=true->dQ E q j p.op=false->T i=some a->(H (j+1)).get a=(H j).get a

def isW(E:Env)(X:Nat->Bool)(q:Nat)(o:Oper)(i:Nat):Prop:=X i=true/\(cls E o.op=2\/((cls E o.op=3\/cls E o.op=5)/\q.testBit i=false))
def isQ(E:Env)(X:Nat->Bool)(q:Nat)(o:Oper)(i:Nat):Prop:=X i=true/\3<=cls E o.op/\q.testBit i=true
def isR(E:Env)(X:Nat->Bool)(o:Oper)(i:Nat):Prop:=X i=false\/cls E o.op<=1

def Down(ops:Array Oper)(S:Nat->Bool):Prop:= ∀i o,ops[i]? =some o->S i=true-> ∀e∈o.after.toList,binds e=true->S e.on=true
def Ready(o:Oper)(S:Nat->Bool):Prop:= ∀e∈o.after.toList,binds e=true->S e.on=true

section
variable{E:Env}{R:Rec}{ops:Array Oper}{q:Nat}{ps:List (Nat×Nat)}{M:List Nat}{L:Nat->Loc}{H:Nat->Hp}{T:Nat->Option Nat}{X:Nat->Bool}(D:DT E R ops q ps M L H T X)
include D

theorem kinds{i:Nat}{o:Oper}(c:ops[i]? =some o):isR E X o i\/isQ E X q o i\/isW E X q o i:=by
 cases a:X i with
 |false=>exact .inl (.inl a)
 | true=>
   have f:=cls_le (E:=E) o.op
   rcases Xh (cls E o.op) 2 with h|h
   . exact .inl (.inr (by omega))
   . by_cases d:cls E o.op=2
     . exact .inr (.inr ⟨a,.inl d⟩)
     . cases b:q.testBit i with
       |true=>exact .inr (.inl ⟨a,by omega,b⟩)
       | false=>
         have g:cls E o.op≠4:=by intro e;have:=D.four i o c e;rw [b]at this;cases this
         exact .inr (.inr ⟨a,.inr ⟨by omega,b⟩⟩)

theorem lI{S:Nat->Bool}(j:Down ops S): ∀(n:Nat) (o:Oper) (m i:Nat),ops[n]? =some o->M[n]? =some m->S n=true->m.testBit i=true->S i=true:=by
 intro n
 induction n using Nat.strongRecOn with
 | _ n k=>
   intro o m i c l p r
   obtain⟨u,g,s,t⟩:=D.bef n o (by rw [Xb];exact c)
   rw [l]at g;cases g
   obtain⟨e,h,a,x⟩:=t i r
   have b:=j n o c p e h a
   rcases x with rfl|⟨m2,d,f⟩
   . exact b
   . have hlt:=s e h a
     have v:n<ops.size:=(Array.getElem?_eq_some_iff.1 c).1
     exact k e.on hlt ops[e.on] m2 i (zN (by omega)) d b f
theorem mY{S:Nat->Bool}(j:Down ops S){n:Nat}{o:Oper}{m i:Nat}(f:ops[n]? =some o)(k:M[n]? =some m)(l:Ready o S)(p:m.testBit i=true):S i=true:=by
 obtain⟨t,g,r,s⟩:=D.bef n o (by rw [Xb];exact f)
 rw [k]at g;cases g
 obtain⟨e,h,a,x⟩:=s i p
 have b:=l e h a
 rcases x with rfl|⟨m2,c,d⟩
 . exact b
 . have hlt:=r e h a
   have u:n<ops.size:=(Array.getElem?_eq_some_iff.1 f).1
   exact lI D j e.on ops[e.on] m2 i (zN (by omega)) c b d
theorem mask{n:Nat}{o:Oper}(a:ops[n]? =some o): ∃m,M[n]? =some m:=by
 obtain⟨b,c,_⟩:=D.bef n o (by rw [Xb];exact a)
 exact⟨b,c⟩

theorem cmpN{n i:Nat}{o p:Oper}{m:Nat}(B:ops[n]? =some o)(C:M[n]? =some m)(F:i<n)(G:ops[i]? =some p)
 (h:(isW E X q p i/\(isW E X q o n\/isQ E X q o n))\/(isQ E X q p i/\isW E X q o n/\dR p.op=false)):m.testBit i=true\/(isQ E X q p i/\cls E o.op=2/\mV ops.toList o n i=true):=by
 cases I:m.testBit i with
 |true=>exact .inl rfl
 | false=>
   by_cases l:isQ E X q p i/\cls E o.op=2/\mV ops.toList o n i=true
   . exact .inr l
   exfalso
   obtain⟨_,z⟩:=D.owe n o m i p B C F G I
   have r: ∀{x y:Oper} {a b:Nat},isW E X q x a->(isW E X q y b\/isQ E X q y b)->cls E x.op≠0/\cls E x.op≠1/\cls E y.op≠0/\cls E y.op≠1:=by
    intro x y a b e t
    obtain⟨_,e⟩:=e
    rcases t with⟨_,t⟩|⟨_,t,_⟩<;>(refine⟨?_,?_,?_,?_⟩<;>omega)
   rcases h with⟨k,s⟩|⟨k,s,u⟩
   . obtain⟨v,f,w,g⟩:=r k s
     rcases z with h|h|⟨h,_⟩|⟨_,h,_⟩|⟨h,_⟩|⟨_,h,_⟩|⟨h,_⟩|⟨a,b,c,d⟩|⟨_,h,_⟩|⟨h,_⟩|⟨J,K,_,e5,_⟩|⟨A,N,e8,e9⟩
     . exact w h
     . exact v h
     . exact g h
     . exact f h
     . exact g h
     . exact f h
     . exact g h
     . obtain⟨_,e⟩:=k
       rcases e with e|⟨e,j⟩
       . exact b e
       . rw [c e]at j;cases j
     . exact f h
     . exact g h
     . obtain⟨_,e⟩:=k
       omega
     . obtain⟨_,e⟩:=k
       rcases e with e|⟨_,j⟩
       . omega
       . rw [e9]at j;cases j
   . obtain⟨v,f,w,g⟩:=r s (.inr k)
     rcases z with h|h|⟨h,_⟩|⟨_,h,_⟩|⟨h,_⟩|⟨_,h,_⟩|⟨h,_⟩|⟨a,b,c,d⟩|⟨_,h,_⟩|⟨h,_⟩|⟨J,K,_,e5,_⟩|⟨A,N,e8,e9⟩
     . exact v h
     . exact w h
     . exact f h
     . exact g h
     . exact f h
     . exact g h
     . exact f h
     . obtain⟨_,e⟩:=s
       rcases e with e|⟨e,j⟩
       . exact a e
       . rw [d e]at j;cases j
     . exact g h
     . exact f h
     . rw [u]at e5;cases e5
     . exact l ⟨k,A,e8⟩
theorem cmp{n i:Nat}{o p:Oper}{m:Nat}(a:ops[n]? =some o)(b:M[n]? =some m)(c:i<n)(d:ops[i]? =some p)
 (h:isW E X q p i/\(isW E X q o n\/isQ E X q o n)):m.testBit i=true:=by
 rcases cmpN D a b c d (.inl h)with x|⟨x,_⟩
 . exact x
 . exfalso
   have e:=h.1.2
   have f:=x.2.2
   rcases e with y|⟨_,y⟩
   . have:=x.2.1;omega
   . rw [f]at y;cases y

theorem uG{S:Nat->Bool}(i:Down ops S){n:Nat}{o:Oper}(f:ops[n]? =some o)(r:Ready o S)(j:S n=false){t:Tmp}(k:t∈jd ops.toList o):
 ∀(p:Nat) (op:Oper),ops[p]? =some op->op.dst=some t->(p<n↔S p=true):=by
 intro p op b a
 obtain⟨m,l⟩:=mask D f
 obtain⟨g,c⟩:=mask D b
 have s:t∈jd ops.toList op:=by unfold jd;rw [a];simp
 rcases Xi p n with h|h|h
 . refine⟨fun _=>?_,fun _=>h⟩
   cases d:m.testBit p with
   |true=>exact mY D i f l r d
   | false=>
     exfalso
     obtain⟨e,_⟩:=D.owe n o m p op f l h b d
     simp only [rb,a,Xa,Xn]at e
     have:=e.2
     rw [(mr t _).2 k]at this;cases this
 . subst h
   exact⟨fun h=>absurd h (Nat.lt_irrefl _),fun h=>by rw [j]at h;cases h⟩
 . refine⟨fun u=>absurd u (by omega),fun v=>?_⟩
   exfalso
   cases d:g.testBit n with
   |true=>have:=lI D i p op g n b c v d;rw [j]at this;cases this
   | false=>
     obtain⟨e,_⟩:=D.owe p op g n o b c h f d
     simp only [rb,a,Xa,Xn]at e
     have:=e.1
     rw [(mr t _).2 k]at this;cases this
end

section
variable{E:Env}{P:Program}(ok:EOk E P){R:Rec}(hc:fW E P R.call)(hcode:iO P R.code)
variable{ops:Array Oper}{q:Nat}{ps:List (Nat×Nat)}{M:List Nat}{L:Nat->Loc}{H:Nat->Hp}{T:Nat->Option Nat}{X:Nat->Bool}(D:DT E R ops q ps M L H T X)

def oD(n:Nat)(mu0:Mu)(d:World)(L:Nat->Loc)(H:Nat->Hp)(i:Nat):Prop:=
 ∃a c b,aJ a (H i) c/\kI a/\iH a (L i).regs n b/\Ext mu0 (H 0) d a (H i) c

structure Turn(ops:Array Oper)(E:Env)(X:Nat->Bool)(q:Nat)(H:Nat->Hp)(T:Nat->Option Nat)(i:Nat)(o:Oper):Prop where
 n:(H i).n<=(H (i+1)).n
 quiet:isQ E X q o i-> ∀b,b<(H i).n->(H (i+1)).get b=(H i).get b
 still:isR E X o i->H (i+1)=H i

theorem As{E:Env}{R:Rec}{ρ:Operand->Value}{o:Oper}{h h':Hp}{v:Value}(c:cls E o.op<=1){a:Bool}(hq:a=false)(b:cw E R ρ a o h=some (v,h')):h'=h:=by
 subst hq
 obtain⟨f,d,_,_⟩:=tF (E:=E) (op:=o.op) (ρ:=ρ) (by omega)
 simp only [cw,cond_false]at b
 rw [d h]at b
 cases hf:f h with
 |none=>rw [hf]at b;cases b
 |some u=>rw [hf]at b;cases b;rfl
theorem qV{E:Env}{q i:Nat}{op:Op}(a:cls E op<=1):dQ E q i op=false:=by
 unfold dQ
 have:Xz 3 (cls E op)=false:=by
  cases h:Xz 3 (cls E op)with
  |false=>rfl
  |true=>have:=Xp h;omega
 rw [this];simp
theorem nT{E:Env}{q i:Nat}{op:Op}(h3:3<=cls E op)(a:q.testBit i=true):dQ E q i op=true:=by
 unfold dQ
 rw [a,XA h3];rfl

include ok hc hcode D in
theorem shadow{n:Nat}{mu0:Mu}{u:World}: ∀(i:Nat),i<=ops.size->oD n mu0 u L H 0->oD n mu0 u L H i/\(∀j o,j<i->ops[j]? =some o->Turn ops E X q H T j o)
 |0,_,h0=>⟨h0,fun j o J=>absurd J (by omega)⟩
 | i + 1,hi,h0=>by
   obtain⟨⟨w,V,a,y,s,g,K⟩,W⟩:=shadow i (by omega) h0
   have z:ops[i]? =some ops[i]:=zN (by omega)
   have m:=D.step i ops[i] z
   suffices N:oD n mu0 u L H (i+1)/\Turn ops E X q H T i ops[i] by
    refine⟨N.1,fun j o J e=>?_⟩
    by_cases A:j=i
    . subst A;rw [z]at e;cases e;exact N.2
    . exact W j o (by omega) e
   generalize O:L (i+1)=L1 at m
   generalize c:H (i+1)=H1 at m
   generalize hT:T i=T1 at m
   generalize Q:X i=X1 at m
   cases m with
   | skip S=>
     refine⟨⟨w,V,fd a ops[i].dst undef,by rw [c];exact y,s,?_,by rw [c];exact K⟩,⟨by rw [c];exact Xg _,(fun⟨h,_⟩=>by rw [Q]at h;cases h),fun _=>c⟩⟩
     rw [O]
     have:=rJ g ops[i].dst (v:=.tuple #[]) (v':=undef) (.tuple rfl (by intro i v v' B;simp at B))
     cases p:ops[i].dst with
     |none=>rw [p]at this;exact this
     |some d=>rw [p]at this;exact this
   | exec S r=>
     rename_i v
     have Y:=vp g S
     have C:=fun x=>u5 (l:=L i) g.sized g.size (tmpsOf ops[i].op.operands.toList) (fun t _ v B=>g.get t v B) s x
     obtain⟨G,Z,v',k1,I,k3,k4,_⟩:=oP ok hc hcode y s C (F:=⟨0,.normal,none⟩) (dfs:=[]) (k:=[]) (cs:=[]) (rest:=[]) z Y r
     have U:=I.le y
     refine⟨⟨G,Z,fd a ops[i].dst v',by rw [c];exact k1,s.mono U,?_,by rw [c];exact Ext.trans K I⟩,⟨by rw [c];exact I.n,?_,?_⟩⟩
     . rw [O]
       have:=rJ (g.mono U) ops[i].dst k3
       cases p:ops[i].dst with
       |none=>rw [p]at this;exact this
       |some d=>rw [p]at this;exact this
     . intro⟨_,h3,hb⟩ b hb'
       rw [c]
       exact k4 (nT h3 hb) b hb'
     . intro f
       rcases f with f|f
       . rw [Q]at f;cases f
       . rw [c];exact As f (qV f) r
end
end Go.Ab

namespace Go.Ab

theorem w_plain{E:Env}{op:Op}{ρ:Operand->Value}{h k:Hp}{nx:c8}(g:cls E op=2\/cls E op=5)(d:aop E ρ h op=some (nx,k)):(∃v,nx=.val v)\/nx=.skip:=by
 have l: ∀{r:Option (Hp×Value)},cR r=some (nx,k)->(∃v,nx=.val v)\/nx=.skip:=by
  intro r i
  cases r with
  |none=>cases i
  |some q=>obtain⟨a,b⟩:=q;cases i;exact .inl ⟨b,rfl⟩
 have j: ∀{r:Option Hp},eQ r=some (nx,k)->(∃v,nx=.val v)\/nx=.skip:=by
  intro r i
  cases r with
  |none=>cases i
  |some q=>cases i;exact .inr rfl
 cases op
 case store=>exact j d
 case mapUpdate=>exact j d
 case insert=>exact j d
 case mapEntry=>exact l d
 case entryStore=>exact j d
 case call c=>
  cases e:c.callee with
  |value f=>simp [cls,e]at g
  |invoke r n=>simp [cls,e]at g
  | builtin m=>
    cases m<;>(try (simp [cls,e]at g;done))
    case append=>
     simp only [aop,e]at d
     split at d
     next=>exact l d
     next=>cases d
    case copy=>
     simp only [aop,e]at d
     split at d
     next=>exact l d
     next=>cases d
    case delete=>
     simp only [aop,e]at d
     split at d
     next=>
      split at d
      next=>cases d
      next=>cases d;exact .inl ⟨_,rfl⟩
     next=>cases d
 case convert o p x=>
  exfalso
  unfold cls at g
  simp only []at g
  split at g<;>omega
 all_goals first
  |(exfalso;simp [cls]at g;done)
  |(exfalso;unfold cls at g;simp only []at g;split at g<;>simp at g;done)
theorem uX{E:Env}{R:Rec}{ρ:Operand->Value}{o:Oper}{h h':Hp}{v:Value}(b:cls E o.op=2\/cls E o.op=5)(a:cw E R ρ false o h=some (v,h')): ∃nx,aop E ρ h o.op=some (nx,h'):=by
 simp only [cw,cond_false]at a
 cases c:aop E ρ h o.op with
 |none=>rw [c]at a;cases a
 | some p=>
   obtain⟨nx,d⟩:=p
   rw [c]at a
   rcases w_plain b c with⟨u,rfl⟩|rfl
   . cases a;exact⟨_,rfl⟩
   . cases a;exact⟨_,rfl⟩
theorem vV{h:Hp}{a b:Option Value}(e:cq h a=cq h b):a=b:=by
 cases a<;>cases b<;>simp [cq]at e⊢
 exact e

section
variable{E:Env}{R:Rec}{ops:Array Oper}{q:Nat}{ps:List (Nat×Nat)}{M:List Nat}{L:Nat->Loc}{H:Nat->Hp}{T:Nat->Option Nat}{X:Nat->Bool}(D:DT E R ops q ps M L H T X)

theorem rI{i:Nat}{o:Oper}(a:isW E X q o i):dQ E q i o.op=false:=by
 unfold dQ
 rcases a.2 with h|⟨_,h⟩
 . rw [h,show Xz 3 2=false from rfl];simp
 . rw [h];simp

theorem dU (cL: ∀j o,j<ops.size->ops[j]? =some o->Turn ops E X q H T j o) {i j:Nat} (a:i<=j) (c:j<=ops.size):(H i).n<=(H j).n:=by
 induction j with
 | zero => have:i=0:=by omega
           subst this;exact Xg _
 | succ j b=>
   by_cases e:i=j+1
   . subst e;exact Xg _
   . exact Xl (b (by omega) (by omega)) (cL j ops[j] (by omega) (zN (by omega))).n

theorem walk_eq{α:Type}(b:Nat->α){a:Nat}: ∀(d:Nat),(∀j,a<=j->j<a+d->b (j+1)=b j)->b (a+d)=b a
 |0,_=>rfl
 | d+1,h=>by
   have c:=h (a+d) (by omega) (by omega)
   have e:=walk_eq b d (fun j f g=>h j f (by omega))
   rw [<-e,<-c];rfl

include D in
theorem w_leaves(u: ∀j,j<=ops.size->(H j).t.Sized (H j).n){p j:Nat}{o s:Oper}(K:ops[p]? =some o)(r:ops[j]? =some s)(N:isW E X q s j)(Y:cls E o.op<=1){ρ:Operand->Value}(Q:T p=touch ρ o.op)
 (z:(p<j/\Owe E ops.toList s o p j q ps)\/(j<p/\Owe E ops.toList o s j p q ps)) (hlt: ∀b,touch ρ o.op=some b->b<(H j).n)
 {f:Hp->Option Value} (f1: ∀h,aop E ρ h o.op=cq h (f h)) (f2:cls E o.op=0-> ∀h O,f h=f O) (Z: ∀h O,(∀b,touch ρ o.op=some b->O.get b=h.get b)->f h=f O):
 f (H (j+1))=f (H j):=by
 have hp:=(Array.getElem?_eq_some_iff.1 K).1
 have ad:=(Array.getElem?_eq_some_iff.1 r).1
 by_cases h0:cls E o.op=0
 . exact f2 h0 _ _
 have h1:cls E o.op=1:=by omega
 -- what the writer's step is
 have A:=D.step j s r
 generalize hL:L (j+1)=L1 at A
 generalize hH:H (j+1)=S at A
 generalize B:T j=T1 at A
 generalize hX:X j=X1 at A
 cases A with
 |skip hg=>exact absurd N.1 (by rw [hX];simp)
 | exec hg v=>
   rw [rI N]at v
   have g:((p,j)∈ps\/(j,p)∈ps)->(cls E s.op=2\/cls E s.op=5)->f S=f (H j):=by
    intro w C
    obtain⟨nx,P⟩:=uX C v
    refine(Z _ _ fun b F=>?_).symm
    refine w_only (u j (by omega)) C P b (hlt b F) ?_
    intro e
    rcases w with w|w
    . exact D.pair w K r (jJ (E:=E) (by omega)) (jJ (E:=E) (by omega)) (Q.trans F) ((B.trans (lD (E:=E) (by omega) _ _)).trans e) rfl
    . exact D.pair w r K (jJ (E:=E) (by omega)) (jJ (E:=E) (by omega)) ((B.trans (lD (E:=E) (by omega) _ _)).trans e) (Q.trans F) rfl
   have n:((p,j)∈ps\/(j,p)∈ps)->di s.op=true->f S=f (H j):=by
    intro w x
    refine(Z _ _ fun b F=>?_).symm
    rw [<-hH]
    exact D.leave w K r (jJ (E:=E) (by omega)) x hX (rI N) (Q.trans F)
   have l:jc s.op o.op=true->f S=f (H j):=by
    intro hle
    unfold jc at hle
    split at hle
    next t m k t' m' k' U e1 e2=>
     simp only [Xa,Xn]at hle
     have V:t=t':=zM hle.2
     have W:U=false:=hle.1
     subst V
     subst W
     obtain⟨nx,P⟩:=uX (.inl (by rw [e1];rfl)) v
     have hf: ∀h,f h=ce E h t (ρ m') (ρ k') false:=by
      intro h
      have:=f1 h
      rw [e2]at this
      exact vV this.symm
     rw [e1]at P
     rw [hf,hf]
     exact look_ent P _ _
    next=>cases hle
   have G:=N.2
   rcases z with⟨I,z⟩|⟨I,z⟩
   . rcases z.2 with h|h|⟨h,_⟩|⟨h,_,i⟩|⟨h,_⟩|⟨h,_,i⟩|⟨h,_⟩|⟨a,b,c,d⟩|⟨_,_,x,i⟩|⟨h,_,x,i⟩|⟨_,h,_⟩|⟨_,h,_⟩
     . omega
     . omega
     . omega
     . rcases i with i|i
       . exact l i
       . exact g (.inl i) (.inl h)
     . omega
     . exact g (.inl i) (.inr h)
     . omega
     . rcases G with y|⟨y,J⟩
       . exact absurd y a
       . rw [d y]at J;cases J
     . exact n (.inl i) x
     . omega
     . omega
     . omega
   . rcases z.2 with h|h|⟨_,h⟩|⟨h,_⟩|⟨_,h,i⟩|⟨h,_⟩|⟨_,h,i⟩|⟨a,b,c,d⟩|⟨_,h,x,i⟩|⟨_,_,x,i⟩|⟨h,_⟩|⟨h,_⟩
     . omega
     . omega
     . omega
     . omega
     . rcases i with i|i
       . exact l i
       . exact g (.inr i) (.inl h)
     . omega
     . exact g (.inr i) (.inr h)
     . rcases G with y|⟨y,J⟩
       . exact absurd y b
       . rw [c y]at J;cases J
     . omega
     . exact n (.inr i) x
     . omega
     . omega
end
end Go.Ab

namespace Go.Ab

structure WExt(mu0:Mu)(h0:Hp)(w0:World)(mu:Mu)(w:World):Prop where
 old: ∀b,b<h0.n->mu b=mu0 b\/(mu0 b≠ .none/\mu b=.dead)
 fresh: ∀b c base top,h0.n<=b->mu b=.blk c base top->w0.heap.size<=c\/ ∃b0 base0 top0,b0<h0.n/\mu0 b0=.blk c base0 top0/\mu b0=.dead
 frame: ∀c,c<w0.heap.size->(∀b base top,mu0 b≠ .blk c base top)->w.heap[c]? =w0.heap[c]?
 ro: ∀b c base top t sz el,mu0 b=.blk c base top->h0.get b=some (.cells t sz el 0)->w.heap[c]? =w0.heap[c]? /\mu b=mu0 b
 wsize:w0.heap.size<=w.heap.size
 os:w.os=w0.os
 tape:w.tape=w0.tape
 output:w.output=w0.output

theorem WExt.refl{mu:Mu}{h:Hp}{w:World}(d:aJ mu h w):WExt mu h w mu w:=
 ⟨fun _ _=>.inl rfl,fun b c a e g f=>absurd (d.lt b (by rw [f];simp)) (by omega),fun _ _ _=>rfl,fun _ _ _ _ _ _ _ _ _=>⟨rfl,rfl⟩,Xg _,rfl,rfl,rfl⟩

theorem WExt.step{mu0 mu r j:Mu}{h0 o F:Hp}{A w w':World}(W:WExt mu0 h0 A mu w)(H: ∀b,mu0 b≠ .none->b<h0.n)(X:h0.n<=o.n)(e:Ext (cut mu o.n) o w r F w')
 (I: ∀b c base top t u el,mu0 b=.blk c base top->h0.get b=some (.cells t u el 0)->o.get b=some (.cells t u el 0)) (k: ∀b,b<F.n->j b=r b) (J: ∀b,F.n<=b->j b=mu b):WExt mu0 h0 A j w':=by
 have Y:=e.n
 have l: ∀g,g<h0.n->mu g=.dead->j g=.dead:=by
  intro g B R
  rw [k g (by omega)]
  rcases e.old g (by omega)with x|⟨_,x⟩
  . rw [x,dT (by omega)];exact R
  . exact x
 have K: ∀c,c<A.heap.size->(∀b base top,mu0 b≠ .blk c base top)-> ∀b base top,cut mu o.n b≠ .blk c base top:=by
  intro c L m b base top h
  by_cases s:b<o.n
  . rw [dT s]at h
    by_cases B:b<h0.n
    . rcases W.old b B with x|⟨_,x⟩
      . exact m b base top (by rw [<-x];exact h)
      . rw [x]at h;cases h
    . rcases W.fresh b c base top (by omega) h with x|⟨g,a,d,_,x,_⟩
      . omega
      . exact m g a d x
  . rw [nf (by omega)]at h;cases h
 refine⟨?_,?_,?_,?_,Xl W.wsize e.wsize,e.os.trans W.os,e.tape.trans W.tape,e.output.trans W.output⟩
 . intro b s
   rw [k b (by omega)]
   rcases e.old b (by omega)with x|⟨x,y⟩
   . rw [x,dT (by omega)];exact W.old b s
   . rw [dT (by omega)]at x
     rcases W.old b s with z|⟨z,_⟩
     . exact .inr ⟨by rw [<-z];exact x,y⟩
     . exact .inr ⟨z,y⟩
 . intro b c base top s h
   have M: ∀n f i,mu n=.blk c f i->n<o.n->r n=.dead->A.heap.size<=c\/ ∃g a d,g<h0.n/\mu0 g=.blk c a d/\j g=.dead:=by
    intro n f i G Z S
    by_cases C:n<h0.n
    . rcases W.old n C with x|⟨_,x⟩
      . exact .inr ⟨n,f,i,C,by rw [<-x];exact G,by rw [k n (by omega)];exact S⟩
      . rw [x]at G;cases G
    . rcases W.fresh n c f i (by omega) G with x|⟨g,a,d,p,v,D⟩
      . exact .inl x
      . exact .inr ⟨g,a,d,p,v,l g p D⟩
   have q:mu b=.blk c base top->A.heap.size<=c\/ ∃g a d,g<h0.n/\mu0 g=.blk c a d/\j g=.dead:=by
    intro N
    rcases W.fresh b c base top s N with x|⟨g,a,d,p,v,D⟩
    . exact .inl x
    . exact .inr ⟨g,a,d,p,v,l g p D⟩
   by_cases O:b<F.n
   . rw [k b O]at h
     by_cases E:b<o.n
     . rcases e.old b E with x|⟨_,x⟩
       . rw [x,dT E]at h;exact q h
       . rw [x]at h;cases h
     . rcases e.fresh b c base top (by omega) h with x|⟨n,f,i,p,v,D⟩
       . exact .inl (Xl W.wsize x)
       . rw [dT p]at v
         exact M n f i v p D
   . exact q (by rw [<-J b (by omega)];exact h)
 . intro c L m
   rw [<-W.frame c L m]
   exact e.frame c (by have:=W.wsize;omega) (K c L m)
 . intro b c base top t u el h P
   have s:=H b (by rw [h];simp)
   obtain⟨T,Q⟩:=W.ro b c base top t u el h P
   obtain⟨U,_,V⟩:=e.ro b c base top t u el (by rw [dT (by omega),Q];exact h) (I b c base top t u el h P)
   exact⟨U.trans T,by rw [k b (by omega),V,dT (by omega)];exact Q⟩
end Go.Ab

namespace Go.Ab

section
variable(E:Env)(ops:Array Oper)(q:Nat)(L:Nat->Loc)(H:Nat->Hp)(X:Nat->Bool)(nr:Nat)(mu0:Mu)(w0:World)

def AtC(S:Nat->Bool)(c:Nat):Prop:=c<=ops.size/\(c=ops.size\/ ∃o,ops[c]? =some o/\isW E X q o c/\S c=false)/\ ∀(i:Nat) o,i<c->ops[i]? =some o->isW E X q o i->S i=true
def RegsAt(S:Nat->Bool)(mu:Mu)(tmps:Array Value):Prop:= ∀(i:Nat),i<=ops.size-> ∀(t:Tmp) v,(∀(p:Nat) (o:Oper),ops[p]? =some o->o.dst=some t->(p<i↔S p=true))->
 (L i).regs.get t=some v-> ∃a,tmps[t]? =some a/\ao mu v a
structure Inv(S:Nat->Bool)(mu:Mu)(w:World)(tmps:Array Value):Prop where
 c: ∃c,AtC E ops q X S c/\aJ mu (H c) w
 glob:kI mu
 non: ∀p,p<ops.size->S p=false-> ∀b,(H p).n<=b->b<(H (p+1)).n->mu b=.none
 size:tmps.size=nr
 regs:RegsAt ops L S mu tmps
 ext:WExt mu0 (H 0) w0 mu w
 cov: ∀p,p<ops.size->S p=true-> ∀b,(H p).n<=b->b<(H (p+1)).n->mu b≠ .none
end

def jn(S:Nat->Bool)(p:Nat):Nat->Bool:=fun i=>if i=p then true else S i
theorem eB(S:Nat->Bool)(p:Nat):jn S p p=true:=by simp [jn]
theorem bj(S:Nat->Bool){p i:Nat}(h:i≠p):jn S p i=S i:=by simp [jn,h]

section
variable{E:Env}{R:Rec}{ops:Array Oper}{q:Nat}{ps:List (Nat×Nat)}{M:List Nat}{L:Nat->Loc}{H:Nat->Hp}{T:Nat->Option Nat}{X:Nat->Bool}(D:DT E R ops q ps M L H T X)

theorem mw{l:Loc}{d:Option Tmp}{v:Value}{t:Tmp}(h:d≠some t):(l.put d v).regs.get t=l.regs.get t:=by
 cases d with
 |none=>rfl
 | some d=>
   show(l.regs.set d v).get t=_
   rw [Tr.get_set,if_neg (fun e=>h (by rw [e.1]))]
include D in
theorem qE{j:Nat}{o:Oper}(b:ops[j]? =some o){t:Tmp}(h:o.dst≠some t):(L (j+1)).regs.get t=(L j).regs.get t:=by
 have a:=D.step j o b
 generalize L (j+1)=e at a
 generalize H (j+1)=f at a
 generalize T j=g at a
 generalize X j=i at a
 cases a with
 |skip c=>exact mw h
 |exec c d=>exact mw h

include D in
theorem ni{S:Nat->Bool}{mu k:Mu}{tmps:Array Value}{F:Nat}(J:Down ops S){p:Nat}{o:Oper}(r:ops[p]? =some o)(K:Ready o S)(N:S p=false)(O:Le mu k)(s:tmps.size=F)(w:(L p).regs.Sized F)
 {v v':Value} (P:ao k v v') (Q:L (p+1)=(L p).put o.dst v) (l:RegsAt ops L S mu tmps):RegsAt ops L (jn S p) k (fd tmps o.dst v'):=by
 intro i U t u b x
 by_cases n:o.dst=some t
 . have V:p<i:=(b p o r n).2 (eB S p)
   have h:t∈jd ops.toList o:=by unfold jd;rw [n];simp
   have y:=uG D J r K N h
   have m:(L i).regs.get t=(L (p+1)).regs.get t:=by
    have:=walk_eq (fun j=>(L j).regs.get t) (a:=p+1) (i-(p+1)) (fun j z G=>by
     have W:j<i:=by omega
     have c:ops[j]? =some ops[j]:=zN (by omega)
     by_cases f:ops[j].dst=some t
     . have I:=(b j _ c f).1 W
       rw [bj S (by omega)]at I
       have:=(y j _ c f).2 I
       omega
     . exact qE D c f)
    rw [show p+1+(i-(p+1))=i by omega]at this
    exact this
   rw [m,Q,n]at x
   have g:((L p).regs.set t v).get t=some u:=x
   rw [Tr.get_set]at g
   cases A:(L p).regs.get t with
   |none=>rw [A]at g;simp at g
   | some u0=>
     rw [A]at g
     simp at g
     subst g
     have:t<tmps.size:=by rw [s];exact(w t).1 (by rw [A];rfl)
     rw [n]
     exact⟨v',by simp [fd,this],P⟩
 . obtain⟨Y,z,G⟩:=l i U t u (fun j Z c f=>by
    have B:j≠p:=by intro e;subst e;rw [r]at c;cases c;exact n f
    have:=b j Z c f
    rwa [bj S B]at this) x
   refine⟨Y,?_,G.mono O⟩
   cases C:o.dst with
   |none=>exact z
   | some d=>
     show(tmps.setIfInBounds d v')[t]? =_
     rw [Array.getElem?_setIfInBounds,if_neg (by intro e;subst e;exact n C)]
     exact z

theorem nj(tmps:Array Value)(d:Option Tmp)(v:Value):(fd tmps d v).size=tmps.size:=by cases d<;>simp [fd]
end
end Go.Ab

namespace Go.Ab

theorem next_W{E:Env}{ops:Array Oper}{q:Nat}{X:Nat->Bool}: ∀(d c:Nat),c+d=ops.size-> ∃c',c<=c'/\c'<=ops.size/\(c'=ops.size\/ ∃o,ops[c']? =some o/\isW E X q o c')/\ ∀i o,c<=i->i<c'->ops[i]? =some o-> ¬isW E X q o i
 |0,c,h=>⟨c,Xg _,by omega,.inl (by omega),fun i o j b=>by omega⟩
 | d +1,c,h=>by
   obtain⟨e,k⟩: ∃e,ops[c]? =some e:=⟨_,zN (xs:=ops) (i:=c) (by omega)⟩
   by_cases l:isW E X q e c
   . exact⟨c,Xg _,by omega,.inr ⟨_,k,l⟩,fun i o j b=>by omega⟩
   . obtain⟨c',j,b,m,n⟩:=next_W (E:=E) (ops:=ops) (q:=q) (X:=X) d (c+1) (by omega)
     refine⟨c',by omega,b,m,fun i o p f a=>?_⟩
     by_cases g:i=c
     . subst g;rw [k]at a;cases a;exact l
     . exact n i o (by omega) f a

section
variable{E:Env}{P:Program}(ok:EOk E P){R:Rec}(hc:fW E P R.call)(hcode:iO P R.code)
variable{ops:Array Oper}{q:Nat}{ps:List (Nat×Nat)}{M:List Nat}{L:Nat->Loc}{H:Nat->Hp}{T:Nat->Option Nat}{X:Nat->Bool}(D:DT E R ops q ps M L H T X)
variable{nr:Nat}{mu0:Mu}{w0:World}

include D in
theorem Av (cL: ∀j o,j<ops.size->ops[j]? =some o->Turn ops E X q H T j o) {n i:Nat} {o:Oper} (ho:ops[n]? =some o) (h2:cls E o.op=2) (C:mV ops.toList o n i=true) {b:Nat} (l:touch ((L n).evD (tmpsOf o.op.operands.toList)) o.op=some b):(H (i+1)).n<=b:=by
 have hn:=(Array.getElem?_eq_some_iff.1 ho).1
 unfold mV at C
 cases F:mapArg o.op with
 |none=>rw [F]at C;cases C
 | some t=>
   rw [F]at C
   simp only [List.any_eq_true,List.mem_range,Xa,List.all_eq_true,Xk,Xn]at C
   obtain⟨k,hk,y,g,G⟩:=C
   have y:i<k:=by simpa [Xr]using y
   have z:ops[k]? =some ops[k]:=zN (by omega)
   unfold atIs at g
   rw [Xb,z]at g
   simp only [Xa]at g
   have Z: ∀{p:Oper},qm t p=true->p.dst=some t:=by
    intro p U
    unfold qm at U
    split at U
    next d hd=>rw [hd,zM U]
    next=>cases U
   have ad:=Z g.2
   -- what the temporary holds at n
   have A:(L n).regs.get t=(L (k+1)).regs.get t:=by
    have:=walk_eq (fun j=>(L j).regs.get t) (a:=k+1) (n-(k+1)) (fun j h1 h2=>by
     have I:ops[j]? =some ops[j]:=zN (by omega)
     refine qE D I fun hd=>?_
     rcases G j (by omega)with x|x
     . have:=Xp x;omega
     . unfold atIs qm at x
       rw [Xb,I]at x
       simp only [hd,Xu]at x
       cases x)
    rw [show k+1+(n-(k+1))=n by omega]at this
    exact this
   -- what the touched block is
   have ht:touch ((L n).evD (tmpsOf o.op.operands.toList)) o.op=some b->(L n).ev (.tmp t)=.map (some b):=by
    intro h
    have J: ∀(ts:List Tmp) (v:Value),(L n).evD ts (.tmp t)=.map (some b)->(L n).ev (.tmp t)=.map (some b):=by
     intro ts v h
     unfold Loc.evD at h
     cases K:mi t ts with
     |true=>simp only [K,cond_true]at h;exact h
     |false=>simp only [K,cond_false]at h;cases h
    cases s:o.op<;>rw [s]at F<;>(try (cases F;done))
    all_goals
     rename_i ty m kk vv
     cases m<;>(try (cases F;done))
     cases F
     rw [s]at h
     unfold touch at h
     simp only []at h
     split at h
     next r hr=>subst h;exact J _ .nilIface hr
     next=>cases h
   have N:=ht l
   have O:=D.step k ops[k] z
   generalize hL:L (k+1)=L1 at O
   generalize hH:H (k+1)=H1 at O
   generalize T k=T1 at O
   generalize hX:X k=X1 at O
   have w: ∀v,L1=(L k).put ops[k].dst v-> ∀b,(L n).ev (.tmp t)=.map (some b)->v=.map (some b):=by
    intro v hv b l
    unfold Loc.ev at l
    simp only [A,hL,hv,ad,Loc.put]at l
    rw [Tr.get_set]at l
    cases V:(L k).regs.get t with
    |none=>rw [V]at l;simp at l
    |some u=>rw [V]at l;simp at l;exact l
   cases O with
   |skip V=>have:=w _ rfl b N;cases this
   | exec V c=>
     rename_i v
     have hv:=w _ rfl b N
     subst hv
     have f:=g.1
     have h4:cls E ops[k].op=4:=by
      unfold isMk at f
      split at f
      . next h=>rw [h];rfl
      . cases f
     have hq:=nT (q:=q) (i:=k) (op:=ops[k].op) (E:=E) (by omega) (D.four k _ z h4)
     rw [hq]at c
     have hle:=dU cL (show i+1<=k from y) (by omega)
     have Q: ∀(h:Hp) (W:c8) (Y:Hp),aop E ((L k).evD (tmpsOf ops[k].op.operands.toList)) h ops[k].op=some (W,Y)->W=.val (.map (some h.n)):=by
      intro h W Y he
      unfold isMk at f
      split at f
      . next ty sz s=>
        rw [s]at he
        cases sz<;>cases he
        rfl
      . cases f
     unfold cw at c
     simp only [cond_true]at c
     cases B:aop E ((L k).evD (tmpsOf ops[k].op.operands.toList)) {H k with lo:=(H k).n} ops[k].op with
     |none=>rw [B]at c;cases c
     | some r=>
       obtain⟨W,Y⟩:=r
       have e:=Q _ _ _ B
       subst e
       rw [B]at c
       simp only [cI]at c
       cases S:Xz (H k).n Y.lo with
       |false=>rw [S]at c;cases c
       | true=>
         rw [S]at c
         simp only [cond_true,Option.some.injEq,Prod.mk.injEq,Value.map.injEq]at c
         rw [<-c.1];exact hle
include D in
theorem wr_new(a: ∀j,j<=ops.size->(H j).t.Sized (H j).n)(cL: ∀j o,j<ops.size->ops[j]? =some o->Turn ops E X q H T j o){n i:Nat}{o:Oper}(f:ops[n]? =some o)(l:isW E X q o n)(g:cls E o.op=2)(m:mV ops.toList o n i=true)(h:i<n){b:Nat}(s:b<(H (i+1)).n):(H (n+1)).get b=(H n).get b:=by
 have t:=(Array.getElem?_eq_some_iff.1 f).1
 have k:=fun b=>Av D cL f g m (b:=b)
 have c:=D.step n o f
 generalize L (n+1)=u at c
 generalize v:H (n+1)=w at c
 generalize T n=x at c
 generalize y:X n=z at c
 cases c with
 |skip p=>rfl
 | exec p d=>
   rw [rI l]at d
   obtain⟨A,r⟩:=uX (.inl g) d
   have hle:=dU cL (show i+1<=n from h) (by omega)
   refine w_only (a n (by omega)) (.inl g) r b (by omega) fun e=>?_
   have:=k b e
   omega

theorem stand(cL: ∀j o,j<ops.size->ops[j]? =some o->Turn ops E X q H T j o){a c:Nat}(k:a<=c)(l:c<=ops.size)
 (e: ∀j o,a<=j->j<c->ops[j]? =some o->isR E X o j\/isQ E X q o j\/ ∀b,b<(H a).n->(H (j+1)).get b=(H j).get b) {b:Nat} (f:b<(H a).n):(H c).get b=(H a).get b:=by
 have:=walk_eq (fun j=>(H j).get b) (a:=a) (c-a) (fun j g m=>by
  have d:ops[j]? =some ops[j]:=zN (by omega)
  have i:=cL j _ (by omega) d
  rcases e j _ g (by omega) d with h|h|h
  rotate_right
  . exact h b f
  . show(H (j+1)).get b=(H j).get b
    rw [i.still h]
  . exact i.quiet h b (Xf f (dU cL g (by omega))))
 rw [show a+(c-a)=c by omega]at this
 exact this

include D in
theorem after_c{S:Nat->Bool}(j:Down ops S){c:Nat}(k:AtC E ops q X S c){i:Nat}{o:Oper}(s:c<=i)(b:ops[i]? =some o)(l:isW E X q o i\/isQ E X q o i)(n:isQ E X q o i->c≠i):S i=false:=by
 have p:=(Array.getElem?_eq_some_iff.1 b).1
 rcases k.2.1 with e|⟨t,d,f,a⟩
 . omega
 . by_cases g:c=i
   . subst g;exact a
   . cases r:S i with
     |false=>rfl
     | true=>
       obtain⟨m,h⟩:=mask D b
       have:=lI D j i o m c b h r (cmp D b h (by omega) d ⟨f,l⟩)
       rw [a]at this;cases this

include D in
theorem read_at(cL: ∀j o,j<ops.size->ops[j]? =some o->Turn ops E X q H T j o)(l: ∀j,j<=ops.size->(H j).t.Sized (H j).n){S:Nat->Bool}(z:Down ops S){c:Nat}(A:AtC E ops q X S c)
 {p:Nat} {o:Oper} (n:ops[p]? =some o) (K:Ready o S) (N:S p=false) (s:cls E o.op<=1) {ρ:Operand->Value} (O:T p=touch ρ o.op)
 (t: ∀b,touch ρ o.op=some b->b<(H p).n) (u: ∀b,touch ρ o.op=some b->b<(H c).n)
 {f:Hp->Option Value} (Q: ∀h,aop E ρ h o.op=cq h (f h)) (U:cls E o.op=0-> ∀h g,f h=f g) (F: ∀h g,(∀b,touch ρ o.op=some b->g.get b=h.get b)->f h=f g):
 f (H c)=f (H p):=by
 have V:=(Array.getElem?_eq_some_iff.1 n).1
 have W:=A.1
 have v: ∀j,j<ops.size->(∀b,touch ρ o.op=some b->b<(H j).n)->(∀w,ops[j]? =some w->isW E X q w j->(p<j/\S j=true)\/(j<p/\S j=false))->f (H (j+1))=f (H j):=by
  intro j G hlt B
  have d:ops[j]? =some ops[j]:=zN G
  have I:=cL j _ G d
  rcases kinds D d with h|h|h
  . rw [I.still h]
  . exact(F _ _ fun b k=>I.quiet h b (hlt b k)).symm
  . refine w_leaves D l n d h s O ?_ hlt Q U F
    rcases B _ d h with⟨i,g⟩|⟨i,g⟩
    . obtain⟨m,y⟩:=mask D d
      refine .inl ⟨i,D.owe j _ m p o d y i n ?_⟩
      cases k:m.testBit p with
      |false=>rfl
      |true=>have:=lI D z j _ m p d y g k;rw [N]at this;cases this
    . obtain⟨m,y⟩:=mask D n
      refine .inr ⟨i,D.owe p o m j _ n y i d ?_⟩
      cases k:m.testBit j with
      |false=>rfl
      |true=>have:=mY D z n y K k;rw [g]at this;cases this
 rcases Nat.le_total p c with C|C
 . have:=walk_eq (fun j=>f (H j)) (a:=p) (c-p) (fun j i g=>v j (by omega) (fun b k=>Xf (t b k) (dU cL i (by omega))) (fun w d r=>by
    have Y:p≠j:=by intro e;subst e;rw [n]at d;cases d;rcases r.2 with x|⟨x,_⟩<;>omega
    exact .inl ⟨by omega,A.2.2 j w (by omega) d r⟩))
   rw [show p+(c-p)=c by omega]at this
   exact this
 . have:=walk_eq (fun j=>f (H j)) (a:=c) (p-c) (fun j i g=>v j (by omega) (fun b k=>Xf (u b k) (dU cL i (by omega))) (fun w d r=>
    .inr ⟨by omega,after_c D z A i d (.inl r) (fun J=>by
     intro _;have:=r.2;have:=J.2.2;rcases r.2 with x|⟨_,x⟩
     . have:=J.2.1;omega
     . rw [x]at this;cases this)⟩))
   rw [show c+(p-c)=p by omega]at this
   exact this.symm
end
end Go.Ab

namespace Go.Ab
section
variable{E:Env}{P:Program}(ok:EOk E P){R:Rec}(hc:fW E P R.call)(hcode:iO P R.code)
variable{ops:Array Oper}{q:Nat}{ps:List (Nat×Nat)}{M:List Nat}{L:Nat->Loc}{H:Nat->Hp}{T:Nat->Option Nat}{X:Nat->Bool}(D:DT E R ops q ps M L H T X)
variable{nr:Nat}{mu0:Mu}{w0:World}

theorem zo{mu:Mu}{n:Nat}(h: ∀b,mu b≠ .none->b<n):cut mu n=mu:=by
 funext b
 by_cases a:b<n
 . exact dT a
 . rw [nf (by omega)]
   cases d:mu b with
   |none=>rfl
   |dead=>exact absurd (h b (by rw [d];simp)) a
   |blk c e f=>exact absurd (h b (by rw [d];simp)) a

theorem sD{S:Nat->Bool}{c p:Nat}(h:AtC E ops q X S c)(f:p≠c):AtC E ops q X (jn S p) c:=by
 refine⟨h.1,h.2.1.imp id fun⟨o,a,b,e⟩=>⟨o,a,b,by rw [bj S (Ne.symm f)];exact e⟩,fun i o g j k=>?_⟩
 by_cases d:i=p
 . subst d;exact eB S i
 . rw [bj S d];exact h.2.2 i o g j k

theorem tO{mu:Mu}{h e:Hp}{w:World}(d:aJ mu h w)(k:e.t.Sized e.n)(l:h.n<=e.n)(j: ∀b,b<h.n->e.get b=h.get b):aJ mu e w:=by
 refine⟨k,fun b c f g a=>?_,fun b a=>?_,d.inj,fun b a=>Xf (d.lt b a) l⟩
 . obtain⟨x,o,m,i,n⟩:=d.blk b c f g a
   exact⟨x,o,by rw [j b (d.lt b (by rw [a];simp))];exact m,i,n⟩
 . rw [j b (d.lt b (by rw [a];simp))];exact d.dead b a

theorem iH.cut{mu d:Mu}{n:Nat}(g: ∀b,d b≠ .none->b<n){t:Tr Value}{m:Nat}{ts e:Array Value}(h:iH mu t m ts)(j:iH d t m e):iH (cut mu n) t m ts:=by
 refine⟨h.size,h.sized,fun i v f=>?_⟩
 obtain⟨k,a,b⟩:=h.get i v f
 obtain⟨l,_,c⟩:=j.get i v f
 exact⟨k,a,ao.cut g c b⟩
theorem kp.cut{mu f:Mu}{n:Nat}(m: ∀b,f b≠ .none->b<n){x:Blk}{base top d g:Nat}{o B:Obj}(h:kp mu x base top o)(p:kp f x d g B):kp (cut mu n) x base top o:=by
 cases x with
 |dead=>exact h
 | cells t Y el Z=>
   obtain⟨C,s,F,e,r⟩:=h
   obtain⟨G,I,J,A,j⟩:=p
   refine⟨C,s,F,e,r.whole,r.fits,r.sized,fun i v k=>?_,r.free⟩
   obtain⟨u,a,b⟩:=r.get i v k
   obtain⟨K,_,c⟩:=j.get i v k
   exact⟨u,a,ao.cut m c b⟩
 | map es c=>
   obtain⟨w,y,e,r⟩:=h
   obtain⟨_,N,A,j⟩:=p
   refine⟨w,y,e,r.1,fun i v u k z=>?_⟩
   obtain⟨O,Q,S,U⟩:=r.2 i v u k z
   obtain⟨K,b1,V⟩:=j.get k
   exact⟨O,Q,ao.cut m V.2.2.1 S,U⟩
 | loop l=>
   obtain⟨w,W,e,r⟩:=h
   obtain⟨_,lT,A,j⟩:=p
   exact⟨w,W,e,r.fn,r.regs.cut m j.regs,r.params,r.assign,r.body,r.st,r.pending⟩
 |dfr=>exact h

def glue(a mu:Mu)(n:Nat):Mu:=fun b=>if b<n then a b else mu b
theorem jf{a mu:Mu}{n b:Nat}(h:b<n):glue a mu n b=a b:=by simp [glue,h]
theorem jL{a mu:Mu}{n b:Nat}(h:n<=b):glue a mu n b=mu b:=by simp [glue,Nat.not_lt.2 h]

theorem glue_rel {mu e:Mu} {hc t f:Hp} {w A:World} (n:aJ mu hc w) (z:aJ e f A) (k2:Ext (cut mu t.n) t w e f A)
 (B: ∀b,t.n<=b->b<f.n->mu b=.none) (U:f.n<=hc.n) (s: ∀b,b<f.n->hc.get b=f.get b):
 aJ (glue e mu f.n) hc A/\Le mu (glue e mu f.n)/\Le e (glue e mu f.n):=by
 have O:=k2.n
 have J:Le mu (glue e mu f.n):=by
  intro b u
  by_cases h:b<f.n
  . rw [jf h]
    by_cases p:b<t.n
    . rcases k2.old b p with x|⟨_,x⟩
      . left;rw [x,dT p]
      . right;exact x
    . exact absurd (B b (by omega) h) u
  . rw [jL (by omega)];exact .inl rfl
 have v:Le e (glue e mu f.n):=by
  intro b u
  left
  exact jf (z.lt b u)
 refine⟨⟨n.sized,fun b c a g k=>?_,fun b k=>?_,?_,fun b k=>?_⟩,J,v⟩
 . by_cases h:b<f.n
   . rw [jf h]at k
     obtain⟨x,o,C,F,G⟩:=z.blk b c a g k
     exact⟨x,o,by rw [s b h];exact C,F,G.mono v⟩
   . rw [jL (by omega)]at k
     obtain⟨x,o,C,F,G⟩:=n.blk b c a g k
     refine⟨x,o,C,?_,G.mono J⟩
     rw [k2.frame c (n.clt k) (fun j d i r=>?_)]
     . exact F
     . by_cases p:j<t.n
       . rw [dT p]at r
         have:=n.inj b j c a g d i k r
         omega
       . rw [nf (by omega)]at r;cases r
 . by_cases h:b<f.n
   . rw [jf h]at k;rw [s b h];exact z.dead b k
   . rw [jL (by omega)]at k;exact n.dead b k
 . have y: ∀b j c a g d i,b<f.n->f.n<=j->e b=.blk c a g->mu j=.blk c d i->False:=by
    intro b j c a g d i h p l m
    by_cases u:b<t.n
    . rcases k2.old b u with x|⟨_,x⟩
      . rw [x,dT u]at l
        have:=n.inj b j c _ _ _ _ l m
        omega
      . rw [x]at l;cases l
    . rcases k2.fresh b c a g (by omega) l with x|⟨Q,I,K,S,N,_⟩
      . have:=n.clt m;omega
      . rw [dT S]at N
        have:=n.inj Q j c _ _ _ _ N m
        omega
   intro b j c a g d i l m
   by_cases h:b<f.n
   . rw [jf h]at l
     by_cases p:j<f.n
     . rw [jf p]at m;exact z.inj b j c _ _ _ _ l m
     . rw [jL (by omega)]at m;exact(y b j c _ _ _ _ h (by omega) l m).elim
   . rw [jL (by omega)]at l
     by_cases p:j<f.n
     . rw [jf p]at m;exact(y j b c _ _ _ _ p (by omega) m l).elim
     . rw [jL (by omega)]at m;exact n.inj b j c _ _ _ _ l m
 . by_cases h:b<f.n
   . omega
   . rw [jL (by omega)]at k;exact n.lt b k

structure iL(ops opsM:Array Oper)(σ:Nat->Nat):Prop where
 op: ∀p o,ops[p]? =some o-> ∃oM,opsM[σ p]? =some oM/\oM.op=o.op/\oM.dst=o.dst/\((o.guard=none/\oM.guard=none)\/ ∃j want,o.guard=some (j,want)/\oM.guard=some (σ j,want))
 no: ∀(p:Nat) (o:Oper) (j:Nat) (want:Bool),ops[p]? =some o->o.guard=some (j,want)->ops[j]? =none->opsM[σ j]? =none
theorem Bj {mu:Mu} {ops e:Array Oper} {σ:Nat->Nat} (i:iL ops e σ) {t:Tr Value} {tmps:Array Value} {o k:Oper} {b:Bool} {p:Nat} (l:ops[p]? =some o) (m:(o.guard=none/\k.guard=none)\/ ∃j a,o.guard=some (j,a)/\k.guard=some (σ j,a))
 (w: ∀j a o' d,o.guard=some (j,a)->ops[j]? =some o'->o'.dst=some d-> ∀v,t.get d=some v-> ∃v',tmps[d]? =some v'/\ao mu v v')
 (c:bV ops.toList t o=some b):Region.wanted k (yielded e tmps)=b:=by
 unfold bV at c
 unfold Region.wanted
 rcases m with⟨f,n⟩|⟨j,a,f,n⟩
 . rw [f]at c;rw [n];cases c;rfl
 . rw [f]at c
   rw [n]
   simp only []at c⊢
   unfold yielded
   cases g:ops[j]? with
   |none=>rw [Xb,g]at c;cases c;rw [i.no p o j a l f g];simp [Option.bind]
   | some o'=>
     obtain⟨B,z,_,y,_⟩:=i.op j o' g
     rw [Xb,g]at c
     rw [z]
     simp only [Option.bind_some]at c⊢
     cases h:o'.dst with
     |none=>rw [h]at c;cases c;rw [y,h];rfl
     | some d=>
       rw [h]at c
       rw [y,h]
       simp only [Option.bind_some]at c⊢
       split at c
       next A r=>
        obtain⟨v',s,u⟩:=w j a o' d f g h _ r
        cases u
        rw [s]
        cases c
        cases A<;>cases a<;>rfl
       next x r=>
        obtain⟨v',s,u⟩:=w j a o' d f g h _ r
        rw [s]
        cases c
        cases u
        rfl
       next=>cases c
theorem qh{E:Env}{R:Rec}{ρ:Operand->Value}{b:Bool}{o a:Oper}{h:Hp}(e:a.op=o.op):cw E R ρ b a h=cw E R ρ b o h:=by
 unfold cw;rw [e]
theorem alloc_at{mu:Mu}{h:Hp}{w w':World}(i:aJ mu h w){b:Nat}(G:mu b=.none)(N:b<h.n){x:Blk}{top:Nat}{o:Obj}(p:h.get b=some x)(I:WNew w w' o)(s:kp mu x 0 top o):
 aJ (upd mu b (.blk w.heap.size 0 top)) h w'/\Le mu (upd mu b (.blk w.heap.size 0 top)):=by
 have A: ∀j,w'.heap[j]? =if j=w.heap.size then some o else w.heap[j]? :=by
  intro j;rw [I.heap,XC]
 have hle:Le mu (upd mu b (.blk w.heap.size 0 top)):=by
  intro g t;left;exact aI _ _ (by intro e;subst e;exact t G)
 refine⟨⟨i.sized,?_,?_,?_,?_⟩,hle⟩
 . intro g c l r d
   by_cases a:g=b
   . subst a
     rw [upd_same]at d
     cases d
     exact⟨x,o,p,by rw [A];simp,s.mono hle⟩
   . rw [aI _ _ a]at d
     obtain⟨y,J,m,k,K⟩:=i.blk g c l r d
     have:=i.clt d
     exact⟨y,J,m,by rw [A,if_neg (by omega)];exact k,K.mono hle⟩
 . intro g d
   by_cases a:g=b
   . subst a;rw [upd_same]at d;cases d
   . rw [aI _ _ a]at d;exact i.dead g d
 . intro B u c v C z F m k
   by_cases n:B=b
   . by_cases f:u=b
     . rw [n,f]
     . subst n;rw [upd_same]at m;rw [aI _ _ f]at k
       cases m;have:=i.clt k;omega
   . rw [aI _ _ n]at m
     by_cases f:u=b
     . subst f;rw [upd_same]at k;cases k;have:=i.clt m;omega
     . rw [aI _ _ f]at k;exact i.inj B u c _ _ _ _ m k
 . intro g d
   by_cases a:g=b
   . omega
   . rw [aI _ _ a]at d;exact i.lt g d
theorem WExt.alloc{mu0 mu:Mu}{h0:Hp}{w0 w w':World}(W:WExt mu0 h0 w0 mu w)(m: ∀b,mu0 b≠ .none->b<h0.n)(i: ∀b c base top,mu0 b=.blk c base top->c<w0.heap.size){b top:Nat}{o:Obj}(A:h0.n<=b)(k:WNew w w' o):WExt mu0 h0 w0 (upd mu b (.blk w.heap.size 0 top)) w':=by
 have p: ∀j,j<w.heap.size->w'.heap[j]? =w.heap[j]? :=by
  intro j B;rw [k.heap,XC,if_neg (by omega)]
 refine⟨fun f g=>?_,fun f c base a g d=>?_,fun c hc r=>?_,fun f c base a t s el d n=>?_,?_,k.os.trans W.os,k.tape.trans W.tape,k.output.trans W.output⟩
 . rw [aI _ _ (by omega)];exact W.old f g
 . by_cases e:f=b
   . subst e;rw [upd_same]at d;cases d;exact .inl W.wsize
   . rw [aI _ _ e]at d
     rcases W.fresh f c base a g d with x|⟨u,h,l,x,y,z⟩
     . exact .inl x
     . exact .inr ⟨u,h,l,x,y,by rw [aI _ _ (by omega)];exact z⟩
 . rw [p c (Xf hc W.wsize)];exact W.frame c hc r
 . obtain⟨x,y⟩:=W.ro f c base a t s el d n
   have v:=m f (by rw [d];simp)
   refine⟨?_,by rw [aI _ _ (by omega)];exact y⟩
   rw [<-x]
   rcases Xh c w.heap.size with hc|hc
   . exact p c hc
   . have:=i _ _ _ _ d;have:=W.wsize;omega
 . rw [k.heap];simp;have:=W.wsize;omega
include ok in
theorem Aj{mu:Mu}{h:Hp}{w:World}{b:Nat}{e:TypeId}{z:List Value}(r:E.zero e=some z)(s:aJ mu h w)(t:mu b=.none)(u:b<h.n)(d:h.get b=some (.cells (Tr.ofList z) z.length e 1))(f:Operand->Value){o:Oper}(k:o.op=.alloc e):
 ∃w' top x,(execOp f o).run P w=.ok (.value (.pointer (some ⟨w.heap.size,0,none⟩))) w'/\WNew w w' x/\aJ (upd mu b (.blk w.heap.size 0 top)) h w'/\Le mu (upd mu b (.blk w.heap.size 0 top)):=by
 obtain⟨c,y,A,N,l⟩:=l8 ok r w
 have m:VL mu z c.cells.toList:=by
  rw [A];exact LR.refl fun a B=>ao.const mu (by simp only [List.all_eq_true]at l;exact l a B)
 have g:kp mu (.cells (Tr.ofList z) z.length e 1) 0 c.cells.size (.cells c.cells e):=by
  refine⟨c.cells,e,(0,0),rfl,rfl,?_,Tr.sized_ofList z,?_,?_⟩
  . have:=m.1;simp at this;omega
  . intro i v n
    rw [Tr.get_ofList]at n
    obtain⟨C,F,G⟩:=m.get n
    exact⟨C,by rw [Xt,<-Xb];exact F,G⟩
  . intro _ i _ O;omega
 obtain⟨I,J⟩:=alloc_at s t u d (gy w (.cells c.cells e)) g
 refine⟨_,_,_,?_,gy w (.cells c.cells e),I,J⟩
 obtain⟨K,op,p,pos,j,guard⟩:=o
 simp only []at k
 subst k
 simp [execOp,Instr.alloc,y,newVar,newRow]
include ok hc hcode D in
theorem inv_step (cL: ∀j o,j<ops.size->ops[j]? =some o->Turn ops E X q H T j o) (bf: ∀i,i<=ops.size->oD nr mu0 w0 L H i) (a4: ∀b,mu0 b≠ .none->b<(H 0).n) (bP: ∀b c base top,mu0 b=.blk c base top->c<w0.heap.size)
 {Q:Array Oper} {σ:Nat->Nat} (bT:iL ops Q σ)
 {S:Nat->Bool} {mu:Mu} {w:World} {tmps:Array Value} (l:Inv E ops q L H X nr mu0 w0 S mu w tmps) (hd:Down ops S) {p:Nat} {o:Oper} (N:ops[p]? =some o) (hr:Ready o S) (hp:S p=false)
 {F:FC} {dfs:List Deferred} {k:List Item} {cs:List Frame} {rest:List Nat}:
 ∃ cf w' aL,Inv E ops q L H X nr mu0 w0 (jn S p) cf w' aL/\
   Steps P (lone (F.mk' tmps dfs (.inRegion Q (σ p::rest)::k)) cs w) (lone (F.mk' aL dfs (.inRegion Q rest::k)) cs w'):=by
 obtain⟨oM,al,e1,e2,e3⟩:=bT.op p o N
 have bh:=(Array.getElem?_eq_some_iff.1 N).1
 obtain⟨bi,wT,bk,t1,t2,t3,t4⟩:=bf p (by omega)
 obtain⟨c,U,hh⟩:=l.c
 have a0: ∀t∈jd ops.toList o,∀v,(L p).regs.get t=some v-> ∃v',tmps[t]? =some v'/\ao mu v v':=
  fun t ht v hv=>l.regs p (by omega) t v (uG D hd N hr hp ht) hv
 have ak: ∀{b:Bool},bV ops.toList (L p).regs o=some b->Region.wanted oM (yielded Q tmps)=b:=by
  intro b hg
  refine Bj (mu:=mu) bT N e3 (fun j cX o' d ch hj cj v hv=>a0 d ?_ v hv) hg
  unfold jd
  rw [ch]
  simp only []
  rw [Xb,hj]
  simp [cj]
 have a5: ∀x,ao mu ((L p).evD (tmpsOf o.op.operands.toList) x) (dg tmps x):=
  fun x=>u5 t3.sized l.size _ (fun t ht v hv=>a0 t (by
   unfold jd
   have:Operand.tmp t∈o.op.operands.toList:=(qj t _).1 ht
   simp only [List.mem_append,List.mem_filterMap]
   exact .inl (.inr ⟨.tmp t,this,rfl⟩)) v hv) l.glob x
 have a7: ∀x,ao bi ((L p).evD (tmpsOf o.op.operands.toList) x) (dg bk x):=
  fun x=>u5 t3.sized t3.size _ (fun t ht v hv=>t3.get t v hv) t2 x
 have V: ∀j,j<=ops.size->(H j).t.Sized (H j).n:=fun j hj=>by obtain⟨_,_,_,g,_⟩:=bf j hj;exact g.sized
 have tp:=cL p o bh N
 have hs:=D.step p o N
 have bl: ∀j,j<=ops.size-> ∀b c base top t sz el,mu0 b=.blk c base top->(H 0).get b=some (.cells t sz el 0)->(H j).get b=some (.cells t sz el 0):=by
  intro j hj b c base top t sz el O hg
  obtain⟨_,_,_,_,_,_,e⟩:=bf j hj
  exact((e.ro b c base top t sz el O hg).2.1).trans hg
 have cW: ∀{i:Nat} {oi:Oper},ops[i]? =some oi->c=i->isW E X q oi i:=by
  intro i oi a1 ck
  subst ck
  rcases U.2.1 with e|⟨oc,Z,ad,_⟩
  . have:=(Array.getElem?_eq_some_iff.1 a1).1;omega
  . rw [a1]at Z;cases Z;exact ad
 generalize hL:L (p+1)=L1 at hs
 generalize hH:H (p+1)=H1 at hs
 generalize bX:T p=T1 at hs
 generalize bm:X p=X1 at hs
 cases hs with
 | skip hg=>
   have af:p≠c:=by
    intro e
    have:=(cW N e.symm).1
    rw [bm]at this;cases this
   have r:=ut (P:=P) (F:=F) (tmps:=tmps) (dfs:=dfs) (k:=k) (cs:=cs) (w:=w) (ops:=Q) (i:=σ p) (rest:=rest) (by rw [al];simpa using ak hg)
   rw [al,show(some oM).bind (·.dst)=oM.dst from rfl,e2]at r
   refine⟨mu,w,_,⟨⟨c,sD U af,hh⟩,l.glob,fun C G n b J B=>?_,by rw [nj];exact l.size,?_,l.ext,?_⟩,.one r⟩
   . refine l.non C G ?_ b J B
     by_cases e:C=p
     . subst e;exact hp
     . rwa [bj S e]at n
   . exact ni D hd N hr hp (Le.refl mu) l.size t3.sized (v:=.tuple #[]) (v':=undef) (.tuple rfl (by intro i v v' hv;simp at hv)) hL l.regs
   . intro C G n b J B
     by_cases e:C=p
     . subst e;rw [hH]at B;omega
     . rw [bj S e]at n;exact l.cov C G n b J B
 | exec hg r=>
   rename_i v
   have W:=ak hg
   cases ax:dR o.op with
   | true =>
     obtain⟨e,bo⟩: ∃e,o.op=.alloc e:=by
      unfold dR at ax
      split at ax
      . exact⟨_, ‹_›⟩
      . cases ax
     have h4:=wz (E:=E) ax
     have bp:=D.four p o N h4
     have hk:isQ E X q o p:=⟨bm,by omega,bp⟩
     rw [nT (by omega) bp]at r
     obtain⟨z,hz,hv,bY⟩: ∃z,E.zero e=some z/\v=ptrTo (H p).n/\H1=(H p).new (.cells (Tr.ofList z) z.length e 1):=by
      unfold cw at r
      simp only [cond_true,bo,aop]at r
      cases hz:E.zero e with
      |none=>rw [hz]at r;cases r
      | some z=>
        rw [hz]at r
        simp only [cR,cI,qq]at r
        rw [show Xz (H p).n (({H p with lo:=(H p).n}:Hp).new (.cells (Tr.ofList z) z.length e 1)).lo=true from XA (Xg _)]at r
        cases r
        exact⟨z,rfl,rfl,rfl⟩
     have hT:T p=some (H p).n:=by rw [bX];unfold ij;rw [ax];rfl
     have br:(H (p+1)).get (H p).n=some (.cells (Tr.ofList z) z.length e 1):=by rw [hH,bY,Hp.get_new _ _ (V p (by omega)),if_pos rfl]
     have cY:(H (p+1)).n=(H p).n+1:=by rw [hH,bY];rfl
     have af:p<c:=by
      rcases Xi p c with h|h|h
      . exact h
      . exfalso
        have hw:=cW N h.symm
        rcases hw.2 with x|⟨_,x⟩
        . omega
        . rw [bp]at x;cases x
      . exfalso
        rcases U.2.1 with e|⟨oc,Z,ad,a2⟩
        . omega
        . obtain⟨m,O⟩:=mask D N
          have:=mY D hd N O hr (cmp D N O h Z ⟨ad,.inr hk⟩)
          rw [a2]at this;cases this
     have ba:(H (p+1)).n<=(H c).n:=dU cL (by omega) U.1
     have bs:(H c).get (H p).n=some (.cells (Tr.ofList z) z.length e 1):=by
      have :=walk_eq (fun j=>(H j).get (H p).n) (a:=p+1) (c-(p+1)) (fun j J B=>by
       have hj:j<ops.size:=by have:=U.1;omega
       have A:ops[j]? =some ops[j]:=zN hj
       have tj:=cL j _ hj A
       show(H (j+1)).get (H p).n=(H j).get (H p).n
       rcases kinds D A with x|x|x
       . rw [tj.still x]
       . refine tj.quiet x _ ?_
         have:=dU cL J (by omega)
         omega
       . obtain⟨m,O⟩:=mask D A
         have cl:=U.2.2 j _ (by omega) A x
         have s:m.testBit p=false:=by
          cases s:m.testBit p with
          |false=>rfl
          |true=>have:=lI D hd j _ m p A O cl s;rw [hp]at this;cases this
         obtain⟨_,hu⟩:=D.owe j _ m p o A O (by omega) N s
         have cm:=x.2
         have h5:=cls_le (E:=E) ops[j].op
         rcases hu with h|h|⟨_,h⟩|⟨_,h,_⟩|⟨_,h,_⟩|⟨_,h,_⟩|⟨_,h,_⟩|⟨a,b,c',d⟩|⟨_,h,_⟩|⟨_,h,_⟩|⟨_,_,b0,_,cn⟩|⟨_,h,_⟩
         . omega
         . omega
         . omega
         . omega
         . omega
         . omega
         . omega
         . rcases cm with hx|⟨hx,hq⟩
           . exact absurd hx a
           . rw [d hx]at hq;cases hq
         . omega
         . omega
         . exact D.leave (.inl cn) N A (jJ (E:=E) (by omega)) b0 x.1 (rI x) hT
         . omega)
      rw [show p+1+(c-(p+1))=c by omega]at this
      exact this.trans br
     have cp:=l.non p bh hp (H p).n (Xg _) (by omega)
     obtain⟨w',top,ob,r1,r2,r3,r4⟩:=Aj (P:=P) ok hz hh cp (by omega) bs (dg tmps) (o:=oM) (e1.trans bo)
     have bb:=zd (P:=P) (F:=F) (dfs:=dfs) (k:=k) (cs:=cs) (rest:=rest) al W (.inr fun cc b1=>by rw [e1,bo]at b1;cases b1) r1
     rw [e2]at bb
     refine⟨upd mu (H p).n (.blk w.heap.size 0 top),w',_,⟨⟨c,sD U (by omega),r3⟩,l.glob.mono r4,fun C G n b J B=>?_,by rw [nj];exact l.size,?_,?_,?_⟩,.one bb⟩
     . have a3:C≠p:=by intro e;subst e;rw [eB]at n;cases n
       rw [bj S a3]at n
       rw [aI _ _ (by
        rcases Xh p C with x|x
        . have:=dU cL (show p+1<=C from x) (by omega);omega
        . have:=dU cL (show C+1<=p by omega) (by omega);omega)]
       exact l.non C G n b J B
     . refine ni D hd N hr hp r4 l.size t3.sized (v:=v) (v':=.pointer (some ⟨w.heap.size,0,none⟩)) ?_ hL l.regs
       rw [hv]
       exact .ptr (uV mu (H p).n w.heap.size 0 _)
     . exact l.ext.alloc a4 bP (dU cL (Xx p) (by omega)) r2
     . intro C G n b J B I
       by_cases e:C=p
       . subst e
         have:b=(H C).n:=by omega
         subst this
         rw [upd_same]at I;cases I
       . rw [bj S e]at n
         have K:=l.cov C G n b J B
         rcases r4 b K with x|x
         . rw [I]at x;exact K x.symm
         . rw [I]at x;cases x
   |false=>
   rcases kinds D N with hk|hk|hk
   . -- a read
     have bc:cls E o.op<=1:=by
      rcases hk with x|x
      . rw [bm]at x;cases x
      . exact x
     have af:p≠c:=by
      intro e
      rcases(cW N e.symm).2 with x|⟨x,_⟩<;>omega
     obtain⟨f,f1,f2,f3⟩:=tF (E:=E) (op:=o.op) (ρ:=(L p).evD (tmpsOf o.op.operands.toList)) (by omega)
     rw [qV bc]at r
     have cr:f (H p)=some v:=by
      simp only [cw,cond_false]at r
      rw [f1 (H p)]at r
      cases hf:f (H p)with
      |none=>rw [hf]at r;cases r
      |some u=>rw [hf]at r;cases r;rfl
     have cx:f (H c)=some v:=by
      rw [<-cr]
      exact read_at D cL V hd U N hr hp bc (bX.trans (lD (E:=E) (by omega) _ _)) (fun b s=>t1.lt b (xJ a7 s)) (fun b s=>hh.lt b (xJ a5 s)) f1 f2 f3
     have b2:cw E R ((L p).evD (tmpsOf o.op.operands.toList)) false o (H c)=some (v,H c):=by
      simp only [cw,cond_false]
      rw [f1 (H c),cx];rfl
     obtain⟨ai,w1,v',k1,k2,k3,_,k4⟩:=oP ok hc hcode hh l.glob a5 (F:=F) (ops:=Q) (i:=σ p) (dfs:=dfs) (k:=k) (cs:=cs) (rest:=rest) al W ((qh e1).trans b2)
     rw [e2]at k4
     have le:=k2.le hh
     have bt: ∀b,mu b=.none->ai b=.none:=by
      intro b s
      by_cases cy:b<(H c).n
      . rcases k2.old b cy with x|⟨x,_⟩
        . rw [x];exact s
        . exact absurd s x
      . exact k1.none_ge (by omega)
     refine⟨ai,w1,_,⟨⟨c,sD U af,k1⟩,l.glob.mono le,fun C G n b J B=>?_,by rw [nj];exact l.size,?_,?_,?_⟩,k4⟩
     . refine bt b (l.non C G ?_ b J B)
       by_cases e:C=p
       . subst e;exact hp
       . rwa [bj S e]at n
     . exact ni D hd N hr hp le l.size t3.sized k3 hL l.regs
     . refine l.ext.step a4 (dU cL (Xx c) U.1) (by rw [zo hh.lt];exact k2) (bl c U.1) (fun _ _=>rfl) (fun b s=>?_)
       rw [k1.none_ge s,hh.none_ge s]
     . intro C G n b J B I
       by_cases e:C=p
       . subst e;rw [tp.still hk]at B;omega
       . rw [bj S e]at n
         have K:=l.cov C G n b J B
         rcases le b K with x|x
         . rw [I]at x;exact K x.symm
         . rw [I]at x;cases x
   . -- a quiet one:it runs at p,below c
     have af:p<c:=by
      rcases Xi p c with h|h|h
      . exact h
      . exfalso
        have hw:=cW N h.symm
        rcases hw.2 with x|⟨_,x⟩
        . have:=hk.2.1;omega
        . rw [hk.2.2]at x;cases x
      . exfalso
        rcases U.2.1 with e|⟨oc,Z,ad,a2⟩
        . omega
        . obtain⟨m,O⟩:=mask D N
          have:=mY D hd N O hr (cmp D N O h Z ⟨ad,.inr hk⟩)
          rw [a2]at this;cases this
     have bd: ∀j oj,p<=j->j<c->ops[j]? =some oj->isR E X oj j\/isQ E X q oj j\/ ∀b,b<(H (p+1)).n->(H (j+1)).get b=(H j).get b:=by
      intro j oj J B A
      rcases kinds D A with x|x|x
      . exact .inl x
      . exact .inr (.inl x)
      . refine .inr (.inr ?_)
        by_cases e:j=p
        . subst e
          rw [N]at A;cases A
          exfalso
          rcases x.2 with y|⟨_,y⟩
          . have:=hk.2.1;omega
          . rw [hk.2.2]at y;cases y
        . obtain⟨m,O⟩:=mask D A
          rcases cmpN D A O (by omega) N (.inr ⟨hk,x,ax⟩)with y|⟨_,y2,y3⟩
          . have:=lI D hd j oj m p A O (U.2.2 j oj B A x) y
            rw [hp]at this;cases this
          . intro b s
            exact wr_new D V cL A x y2 y3 (by omega) s
     have Y: ∀b,b<(H p).n->(H c).get b=(H p).get b:=fun b s=>stand cL (by omega) U.1 (fun j oj J B A=>(bd j oj J B A).imp id (.imp id fun f b s=>f b (by have:=tp.n;omega))) s
     have a6: ∀b,b<(H (p+1)).n->(H c).get b=(H (p+1)).get b:=fun b s=>stand cL (by omega) U.1 (fun j oj J B=>bd j oj (by omega) B) s
     have c1:(H p).n<=(H c).n:=dU cL (by omega) U.1
     have ba:(H (p+1)).n<=(H c).n:=dU cL (by omega) U.1
     have b3:aJ (cut mu (H p).n) (H p) w:=by
      refine⟨V p (by omega),fun b c0 base top O=>?_,fun b O=>?_,fun b b' c0 base top bu b4 J B=>?_,fun b O=>?_⟩
      . by_cases s:b<(H p).n
        . rw [dT s]at O
          obtain⟨x,ob,g1,g2,g3⟩:=hh.blk b c0 base top O
          refine⟨x,ob,by rw [<-Y b s];exact g1,g2,?_⟩
          have cz:bi b≠ .none:=by
           by_cases I:b<(H 0).n
           . have cA:mu0 b≠ .none:=by
              rcases l.ext.old b I with y|⟨y,_⟩
              . rw [<-y,O];simp
              . exact y
             rcases t4.old b I with y|⟨_,y⟩
             . rw [y];exact cA
             . rw [y];simp
           . exact t4.cover b (by omega) s
          cases bv:bi b with
          |none=>exact absurd bv cz
          | dead=>
            have:=t1.dead b bv
            rw [<-Y b s,g1]at this
            cases this
            exact g3.elim
          | blk cT bx b5=>
            obtain⟨xT,oT,j1,j2,j3⟩:=t1.blk b cT bx b5 bv
            rw [<-Y b s,g1]at j1
            cases j1
            exact kp.cut (fun b' bB=>t1.lt b' bB) g3 j3
        . rw [nf (by omega)]at O;cases O
      . by_cases s:b<(H p).n
        . rw [dT s]at O;rw [<-Y b s];exact hh.dead b O
        . rw [nf (by omega)]at O;cases O
      . exact hh.inj b b' c0 base top bu b4 (by
         by_cases s:b<(H p).n
         . rw [dT s]at J;exact J
         . rw [nf (by omega)]at J;cases J) (by
         by_cases s:b'<(H p).n
         . rw [dT s]at B;exact B
         . rw [nf (by omega)]at B;cases B)
      . by_cases s:b<(H p).n
        . exact s
        . rw [nf (by omega)]at O;exact absurd rfl O
     have b6: ∀x,ao (cut mu (H p).n) ((L p).evD (tmpsOf o.op.operands.toList) x) (dg tmps x):=fun x=>ao.cut (fun b' bB=>t1.lt b' bB) (a7 x) (a5 x)
     have cN:kI (cut mu (H p).n):=fun g hg=>(l.glob g hg).cut (t1.lt _ (t2 g hg).in)
     have be:=r
     rw [nT hk.2.1 hk.2.2]at be
     obtain⟨ai,w1,v',k1,k2,k3,_,k4⟩:=oP ok hc hcode b3 cN b6 (F:=F) (ops:=Q) (i:=σ p) (dfs:=dfs) (k:=k) (cs:=cs) (rest:=rest) al W ((qh e1).trans be)
     rw [e2]at k4
     rw [<-hH]at k1 k2
     obtain⟨gh,le,cO⟩:=glue_rel hh k1 k2 (fun b J B=>l.non p bh hp b J B) ba a6
     refine⟨glue ai mu (H (p+1)).n,w1,_,⟨⟨c,sD U (by omega),gh⟩,l.glob.mono le,fun C G n b J B=>?_,by rw [nj];exact l.size,?_,?_,?_⟩,k4⟩
     . have a3:C≠p:=by intro e;subst e;rw [eB]at n;cases n
       rw [bj S a3]at n
       have K:=l.non C G n b J B
       rcases Xh p C with x|x
       . rw [jL (Xl (dU cL (show p+1<=C from x) (by omega)) J)];exact K
       . have ay:b<(H p).n:=Xf B (dU cL (show C+1<=p by omega) (by omega))
         rw [jf (Xf ay tp.n)]
         rcases k2.old b ay with y|⟨y,_⟩
         . rw [y,dT ay];exact K
         . rw [dT ay]at y;exact absurd K y
     . exact ni D hd N hr hp le l.size t3.sized (k3.mono cO) hL l.regs
     . exact l.ext.step a4 (dU cL (Xx p) (by omega)) k2 (bl p (by omega)) (fun b s=>jf s) (fun b s=>jL s)
     . intro C G n b J B I
       by_cases e:C=p
       . subst e;rw [jf B]at I;exact k2.cover b J B I
       . rw [bj S e]at n
         have K:=l.cov C G n b J B
         rcases le b K with x|x
         . rw [I]at x;exact K x.symm
         . rw [I]at x;cases x
   . -- a writer:it is the one at c
     have af:p=c:=by
      rcases Xi p c with h|h|h
      . have:=U.2.2 p o h N hk;rw [hp]at this;cases this
      . exact h
      . rcases U.2.1 with e|⟨oc,Z,ad,a2⟩
        . omega
        . obtain⟨m,O⟩:=mask D N
          have:=mY D hd N O hr (cmp D N O h Z ⟨ad,.inl hk⟩)
          rw [a2]at this;cases this
     subst af
     rw [rI hk]at r
     obtain⟨ai,w1,v',k1,k2,k3,_,k4⟩:=oP ok hc hcode hh l.glob a5 (F:=F) (ops:=Q) (i:=σ p) (dfs:=dfs) (k:=k) (cs:=cs) (rest:=rest) al W ((qh e1).trans r)
     rw [e2]at k4
     have le:=k2.le hh
     rw [<-hH]at k1 k2
     obtain⟨c',d1,d2,d3,d4⟩:=next_W (E:=E) (ops:=ops) (q:=q) (X:=X) (ops.size-(p+1)) (p+1) (by omega)
     have bF:aJ ai (H c') w1:=by
      refine tO k1 (V c' d2) (dU cL d1 d2) (fun b s=>stand cL d1 d2 (fun j oj J B A=>?_) s)
      rcases kinds D A with x|x|x
      . exact .inl x
      . exact .inr (.inl x)
      . exact absurd x (d4 j oj J B A)
     refine⟨ai,w1,_,⟨⟨c',⟨d2,?_,?_⟩,bF⟩,l.glob.mono le,fun C G n b J B=>?_,by rw [nj];exact l.size,?_,?_,?_⟩,k4⟩
     . rcases d3 with e|⟨o',b7,b8⟩
       . exact .inl e
       . refine .inr ⟨o',b7,b8,?_⟩
         rw [bj S (by omega)]
         exact after_c D hd U (by omega) b7 (.inl b8) (fun _=>by omega)
     . intro i oi hi a1 b9
       by_cases ca:i=p
       . subst ca;exact eB S i
       . rw [bj S ca]
         rcases Xh i p with x|x
         . exact U.2.2 i oi x a1 b9
         . exact absurd b9 (d4 i oi (by omega) hi a1)
     . have a3:C≠p:=by intro e;subst e;rw [eB]at n;cases n
       rw [bj S a3]at n
       rcases Xh p C with x|x
       . exact k1.none_ge (Xl (dU cL (show p+1<=C from x) (by omega)) J)
       . have ay:b<(H p).n:=Xf B (dU cL (show C+1<=p by omega) (by omega))
         have K:=l.non C G n b J B
         rcases k2.old b ay with y|⟨y,_⟩
         . rw [y];exact K
         . exact absurd K y
     . exact ni D hd N hr hp le l.size t3.sized k3 hL l.regs
     . refine l.ext.step a4 (dU cL (Xx p) U.1) (by rw [zo hh.lt];exact k2) (bl p U.1) (fun _ _=>rfl) (fun b s=>?_)
       rw [k1.none_ge s,hh.none_ge (Xl tp.n s)]
     . intro C G n b J B I
       by_cases e:C=p
       . subst e;exact k2.cover b J B I
       . rw [bj S e]at n
         have K:=l.cov C G n b J B
         rcases le b K with x|x
         . rw [I]at x;exact K x.symm
         . rw [I]at x;cases x
end
end Go.Ab

namespace Go.Ab
theorem lj{e a:Edge}(h:e.ground=a.ground):binds e=binds a:=by
 unfold binds Region.binds;rw [h]
structure Ord(ops opsM:Array Oper)(σ τ:Nat->Nat):Prop where
 size:ops.size=opsM.size
 lt: ∀p,p<ops.size↔σ p<ops.size
 st: ∀i,σ (τ i)=i
 ts: ∀p,τ (σ p)=p
 op: ∀p o,ops[p]? =some o-> ∃oM,opsM[σ p]? =some oM/\oM.op=o.op/\oM.dst=o.dst/\((o.guard=none/\oM.guard=none)\/ ∃j want,o.guard=some (j,want)/\oM.guard=some (σ j,want))/\
  (∀e∈o.after.toList,∃eM∈oM.after.toList,e.ground=eM.ground/\(eM.on<ops.size->e.on=τ eM.on)/\(ops.size<=eM.on->ops.size<=e.on))/\
  ∀eM∈oM.after.toList,∃e∈o.after.toList,e.ground=eM.ground/\(eM.on<ops.size->e.on=τ eM.on)/\(ops.size<=eM.on->ops.size<=e.on)
theorem Ord.same{ops e:Array Oper}{σ τ:Nat->Nat}(o:Ord ops e σ τ):iL ops e σ:=by
 refine⟨fun p x g=>?_,fun _ _ p _ _ _ f=>?_⟩
 . obtain⟨i,a,b,c,d,_⟩:=o.op p x g;exact⟨i,a,b,c,d⟩
 . have j: ¬p<ops.size:=by intro h;rw [zN h]at f;cases f
   refine Xw ?_
   rw [<-o.size]
   have:=mt (o.lt p).2 j
   omega
theorem Ord.part{ops f g:Array Oper}{σ τ:Nat->Nat}(o:Ord ops f σ τ)(q: ∀(i:Nat),i<f.size->g[i]? =f[i]?)(r: ∀x∈f.toList,iJ f.size x=true):iL ops g σ:=by
 refine⟨fun p x l=>?_,fun p x j m l h n=>?_⟩
 . obtain⟨k,a,b,c,d,_⟩:=o.op p x l
   exact⟨k,by rw [q _ (Array.getElem?_eq_some_iff.1 a).1];exact a,b,c,d⟩
 . exfalso
   obtain⟨k,a,_,_,d,_⟩:=o.op p x l
   rcases d with⟨d,_⟩|⟨v,w,d,e⟩
   . rw [h]at d;cases d
   . rw [h]at d;cases d
     have s:k∈f.toList:=by simpa using Array.mem_of_getElem? a
     have:=r k s
     unfold iJ at this
     rw [e]at this
     have t:σ j<ops.size:=by rw [o.size];simpa [Xr]using this
     have u:=(o.lt j).2 t
     rw [zN u]at n;cases n
theorem Ord.id(ops:Array Oper):Ord ops ops (fun i=>i) (fun i=>i):=by
 refine⟨rfl,fun _=>Iff.rfl,fun _=>rfl,fun _=>rfl,fun p o b=>⟨o,b,rfl,rfl,?_,fun e a=>⟨e,a,rfl,fun _=>rfl,fun h=>h⟩,fun e a=>⟨e,a,rfl,fun _=>rfl,fun h=>h⟩⟩⟩
 cases c:o.guard with
 |none=>exact .inl ⟨rfl,rfl⟩
 |some q=>obtain⟨j,w⟩:=q;exact .inr ⟨j,w,rfl,rfl⟩
theorem p4{i:Nat}: ∀{l:List Nat},i∈l->eX i l<l.length/\l[eX i l]? =some i
 | [],h=>by cases h
 | x ::l,h=>by
   unfold eX
   cases c:Xm i x with
   | true=>
     have:=zM c
     subst this
     simp
   | false=>
     have d:i≠x:=by intro e;subst e;rw [Xu]at c;cases c
     rcases List.mem_cons.1 h with e|h
     . exact absurd e d
     . obtain⟨a,b⟩:=p4 h
       simp only [cond_false,Xo,Xv]
       exact⟨by omega,b⟩
theorem qU{i:Nat}: ∀{l:List Nat},i∉l->eX i l=l.length
 | [],_=>rfl
 | x::l,h=>by
   unfold eX
   have a:Xm i x=false:=by
    cases a:Xm i x with
    |false=>rfl
    |true=>exact absurd (List.mem_cons.2 (.inl (zM a))) h
   rw [a]
   simp only [cond_false,Xo]
   rw [qU (fun b=>h (Xc _ b))]
theorem ordL_mem(ops:List Oper)(i:Nat):i∈ordL ops↔i<ops.length:=by
 unfold ordL
 simp only [List.mem_append,List.mem_filter,List.mem_range]
 cases ru ops i<;>cases uj ops i<;>simp
theorem AG(ops:List Oper):(ordL ops).Nodup:=by
 unfold ordL
 rw [List.nodup_append,List.nodup_append]
 refine⟨List.nodup_range.filter _,⟨List.nodup_range.filter _,List.nodup_range.filter _,fun a f b c e=>?_⟩,fun a f b c e=>?_⟩
 . subst e
   have g:=(List.mem_filter.1 f).2
   have d:=(List.mem_filter.1 c).2
   revert g d
   cases ru ops a<;>cases uj ops a<;>simp
 . subst e
   have g:=(List.mem_filter.1 f).2
   rcases List.mem_append.1 c with c|c<;>(have d:=(List.mem_filter.1 c).2;rw [g]at d;cases d)
theorem ordL_len(ops:List Oper):(ordL ops).length=ops.length:=by
 unfold ordL
 rw [List.length_append,List.length_append]
 have a: ∀(l:List Nat) (f g:Nat->Bool),(l.filter f).length+((l.filter fun i=>!f i&& !g i).length+(l.filter fun i=>!f i&&g i).length)=l.length:=by
  intro l f g
  induction l with
  |nil=>rfl
  | cons x l b=>
    simp only [List.filter_cons]
    cases f x<;>cases g x<;>simp<;>omega
 rw [a,List.length_range]
theorem vh(ops:List Oper)(ord:List Nat): ∀(l:List Nat),(∀i∈l,i<ops.length)-> ∀(p:Nat),(dY ops ord l)[p]? =(l[p]?).bind fun(i:Nat)=>(ops[i]?).map (reix ord)
 | [],_,p=>by simp [dY]
 | i ::l,h,p=>by
   have a:i<ops.length:=h i Xe
   unfold dY
   rw [Xd a]
   simp only []
   cases p with
   |zero=>simp [a]
   | succ p=>
     simp only [Xv]
     exact vh ops ord l (fun j b=>h j (Xc _ b)) p
theorem tw{ord:List Nat}(f:ord.Nodup){p i:Nat}(g:ord[p]? =some i):eX i ord=p:=by
 have k:i∈ord:=XB g
 obtain⟨a,b⟩:=p4 k
 have l:=List.getElem?_eq_some_iff.1 g
 have m:=List.getElem?_eq_some_iff.1 b
 obtain⟨c,h⟩:=l
 obtain⟨d,j⟩:=m
 rcases Xi (eX i ord) p with e|e|e
 . exact absurd (j.trans h.symm) (List.pairwise_iff_getElem.1 f _ _ d c e)
 . exact e
 . exact absurd (h.trans j.symm) (List.pairwise_iff_getElem.1 f _ _ c d e)
theorem yu(ops:Array Oper)(ord:List Nat)(d: ∀i,i∈ord↔i<ops.toList.length)(u:ord.Nodup)(f:ord.length=ops.toList.length)(v:ops.toList.all (iJ ops.toList.length)=true):
 Ord (dY ops.toList ord ord).toArray ops (fun p=>(ord[p]?).getD p) (fun i=>if i<ops.size then eX i ord else i):=by
 have x:ops.toList.length=ops.size:=by simp
 rw [x]at f d
 have k:=vh ops.toList ord ord (fun i I=>by rw [x];exact(d i).1 I)
 have y:(dY ops.toList ord ord).length=ops.size:=by
  have r: ∀p,p<(dY ops.toList ord ord).length↔p<ops.size:=by
   intro p
   have J:p<(dY ops.toList ord ord).length↔((dY ops.toList ord ord)[p]?).isSome=true:=by simp
   rw [J,k]
   rcases Xh p ops.size with h|h
   . have g:p<ord.length:=by omega
     rw [Xd g]
     have l:ord[p]<ops.size:=(d _).1 (List.getElem_mem g)
     simp [l,h]
   . rw [Xj (by omega)]
     simp;omega
  have a:=r (dY ops.toList ord ord).length
  have b:=r ops.size
  omega
 have E: ∀p,p<ops.size-> ∃i,ord[p]? =some i/\i<ops.size:=fun p F=>⟨ord[p]'(by omega),Xd _,(d _).1 (List.getElem_mem _)⟩
 have z: ∀p i,ord[p]? =some i->eX i ord=p:=fun p i F=>tw u F
 have c:(dY ops.toList ord ord).toArray.size=ops.size:=by simp [y]
 refine⟨c,fun p=>?_,fun i=>?_,fun p=>?_,fun p o K=>?_⟩
 . rw [c]
   rcases Xh p ops.size with h|h
   . obtain⟨i,g,l⟩:=E p h
     simp [g,h,l]
   . rw [Xj (by omega)];simp
 . by_cases h:i<ops.size
   . rw [if_pos h,(p4 ((d i).2 h)).2];rfl
   . rw [if_neg h,Xj (by omega)];rfl
 . rcases Xh p ops.size with h|h
   . obtain⟨i,g,l⟩:=E p h
     simp only [g,Option.getD_some,l,if_true]
     exact z p i g
   . rw [Xj (by omega)]
     simp only [Option.getD_none]
     rw [if_neg (by omega)]
 . have s:(dY ops.toList ord ord)[p]? =some o:=by simpa using K
   rw [k]at s
   obtain⟨i,g,l⟩:=Option.bind_eq_some_iff.1 s
   obtain⟨t,G,rfl⟩:=Option.map_eq_some_iff.1 l
   have A:ops[i]? =some t:=by simpa using G
   refine⟨t,by simp only [g,Option.getD_some];exact A,rfl,rfl,?_,?_,?_⟩
   . have B:=List.all_eq_true.1 v t (XB G)
     unfold iJ at B
     cases m:t.guard with
     |none=>left;simp [reix,m]
     | some q=>
       obtain⟨j,w⟩:=q
       rw [m]at B
       have L:j<ops.size:=by rw [<-x];simpa [Xr]using B
       right
       refine⟨eX j ord,w,by simp [reix,m],?_⟩
       rw [(p4 ((d j).2 L)).2];rfl
   . intro e H
     simp only [reix,Array.toList_map,List.mem_map]at H
     obtain⟨n,C,rfl⟩:=H
     refine⟨n,C,rfl,fun h=>?_,fun h=>?_⟩
     . rw [c]at h;simp [h]
     . rw [c]at h
       show _<=eX n.on ord
       rw [qU (fun D=>by have:=(d _).1 D;omega),f,c];exact Xg _
   . intro n C
     refine⟨{n with on:=eX n.on ord},by simp only [reix,Array.toList_map,List.mem_map];exact⟨n,C,rfl⟩,rfl,fun h=>?_,fun h=>?_⟩
     . rw [c]at h;simp [h]
     . rw [c]at h
       show _<=eX n.on ord
       rw [qU (fun D=>by have:=(d _).1 D;omega),f,c];exact Xg _
theorem wD(ops:Array Oper): ∃(a:Array Oper) (σ τ:Nat->Nat),a.toList=bC ops.toList/\Ord a ops σ τ:=by
 unfold bC
 cases b:(ops.toList.any ry||qR ops.toList)&&ops.toList.all (iJ ops.toList.length)with
 |false=>exact⟨ops,_,_,rfl,Ord.id ops⟩
 | true=>
   simp only [Xa]at b
   exact⟨_,_,_,rfl,yu ops _ (ordL_mem ops.toList) (AG ops.toList) (ordL_len ops.toList) b.2⟩
end Go.Ab

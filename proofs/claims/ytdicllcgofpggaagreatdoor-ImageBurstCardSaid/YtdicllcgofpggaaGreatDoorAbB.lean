/- A deterministic evaluator of the model's code, and that the model follows it (part 2). -/
import Derived.Test.YtdicllcgofpggaaGreatDoorAbA
open Nat renaming beq->zB,min->Xg,le_refl->Xh,lor->Xi,pow->Xl,blt->Xo,mul_le_mul_right->Xq,zero_add->Xr,mul_one->Xs,add_mul->Xt,testBit->Xu
open Array renaming getElem?_toList->zM,toList_map->Xb,toList_modify->Xj,toList_append->Xk,range->Xn,ext'->Xv
open Bool renaming false_eq_true->zO,and_self->Xm,not_false->Xp
open List renaming all_eq_true->Xa,range->Xc,getElem?_append_right->Xd,getElem?_append_left->Xe,getElem?_eq_getElem->Xf
set_option maxHeartbeats 400000
set_option linter.defProp false
set_option linter.unusedVariables false
set_option linter.unusedSimpArgs false
namespace Go.Ab
section
variable{E:Env}{P:Program}(ok:EOk E P)

theorem rm : ∀(l m:List Value) {r:Bool},dz l m=some r->(∀v∈l,oP v=true)/\(∀v∈m,oP v=true)/\l.length=m.length/\(r=true↔l=m):=by
 intro l
 induction l with
 | nil=>grind[dz]| cons a l e=>
   intro m r h;cases m with
   |nil=>cases a<;>simp [dz]at h
   | cons b m=>
     cases a<;>(try (simp [dz]at h;done));cases b<;>(try (simp [dz]at h;done));rename_i k x f y;simp only [dz,ip]at h;by_cases g:k=f
     . subst g;simp only [decide_true,cond_true]at h;cases d:dz l m with
       |none=>simp [d]at h| some q=>
         rw [d]at h;simp only []at h;obtain⟨i,j,n,o⟩:=e m d;refine⟨fun v c=>?_,fun v c=>?_,by simp [n],?_⟩
         . rcases List.mem_cons.1 c with rfl|c
           . rfl
           . exact i v c
         . rcases List.mem_cons.1 c with rfl|c
           . rfl
           . exact j v c
         grind[io]
     grind
theorem Cj: ∀(l m:List Value) {r:Bool},dz l m=some r->dz m l=some r:=by
 intro l
 induction l with
 | nil=>grind[dz]| cons a l e=>
   intro m r h;cases m with
   |nil=>cases a<;>simp [dz]at h
   | cons b m=>
     cases a<;>(try (simp [dz]at h;done));cases b<;>(try (simp [dz]at h;done));rename_i k x c y;simp only [dz,ip]at h⊢;by_cases d:k=c
     . subst d;simp only [decide_true,cond_true]at h⊢;grind[dz,io,Bool.beq_comm]
     grind
theorem sameBits_self{v:Value}(h:oP v=true)(n:Nat):Instr.sameBits n v v=true:=by cases v<;>simp only [oP]at h<;>(try (cases h;done));cases n<;>simp [Instr.sameBits]
theorem qP{a b:Value}(h:cd a b=some true): ∀n,Instr.sameBits (n+1) a b=true:=by
 intro n;unfold cd at h;cases a<;>(try (simp at h;done))<;>cases b<;>(try (simp at h;done))
 . rename_i x y;cases x<;>cases y<;>simp at h<;>rfl
 . grind[ip,io,Instr.sameBits]
 . rename_i s u;simp only []at h;rw [jC]at h;simp at h;have:s=u:=(by cases s;cases u;simp [aD]at h;simp [h]);subst this;have d:(s==s)=true:=(by show(s.data==s.data)=true;simp);simp [Instr.sameBits,d]
 . rename_i x y;simp only []at h;obtain⟨f,_,_,i⟩:=rm _ _ h;have e:x=y:=(by simp_all);subst e;simp only [Instr.sameBits,beq_self_eq_true,Bool.true_and,Xa];have: ∀(l:List Value),(∀v∈l,oP v=true)-> ∀p∈l.zip l,Instr.sameBits n p.1 p.2=true:=by
    intro l
    induction l with
    |nil=>simp_all| cons v l j=>
      intro g p c;rw [List.zip_cons_cons]at c;rcases List.mem_cons.1 c with rfl|c
      . exact sameBits_self (g v (by simp)) n
      grind
   exact this _ f
theorem xJ{a b:Value}(t:Bool)(h:cd a b=some t):cd b a=some t:=by
 unfold cd at*
 grind[ip,io,Bool.beq_comm,jC,Cj]

def ie:TypeDesc->Bool
 | .array _ _=>true|_=>false
theorem sT{kt:TypeId}{k k':Value}{d:TypeDesc}{t:Bool}(c:ie d=false)(e:E.und kt=some d)(hf:bE E kt k=true)(h:cd k k'=some t):Instr.sameNow d k k'=some t:=by
 unfold bE at hf;simp only [e]at hf;unfold cd at h;cases d<;>simp only []at hf<;>try (cases hf;done)
 . cases k<;>simp only []at hf<;>try (cases hf;done)
   cases k'<;>simp only []at h<;>try (cases h;done)
   rename_i a b;cases h;cases a<;>cases b<;>rfl
 . grind[hf,ip,io,Instr.sameNow]
 . cases k<;>simp only []at hf<;>try (cases hf;done)
   cases k'<;>simp only []at h<;>try (cases h;done)
   rename_i a b;rw [jC]at h;cases h;simp only [Instr.sameNow];congr 1;rw [show(a==b)=(a.data==b.data)from rfl,<-Array.beq_toList];rfl
 . cases c
theorem nI {kt e:TypeId} {k:Value} {n:Nat} (g:E.und kt=some (.array n e)) (hf:bE E kt k=true): ∃(cs:Array Value) (kd:IntKind),k=.agg cs/\E.agg e=some false/\E.sz e=some 1/\cs.toList.length=n/\E.und e=some (.int kd)/\ ∀v∈cs.toList,∃x,v=.int kd x:=by
 unfold bE at hf;simp only [g]at hf;cases k<;>simp only []at hf<;>try (cases hf;done)
 rename_i cs;cases a:E.agg e with
 |none=>simp [a]at hf| some b=>
   cases b with
   |true=>simp [a]at hf| false =>
     cases h:E.sz e with
     |none=>grind| some s=>
       cases i:E.und e with
       |none=>grind| some d=>
         rw [a,h,i]at hf;cases d<;>simp only []at hf<;>try (cases hf;done)
         rename_i kd;simp only [cC]at hf;by_cases c:s=1
         . by_cases f:cs.toList.length=n
           . simp only [c,f,decide_true,cond_true,Xa]at hf;refine⟨cs,kd,rfl,rfl,by rw [c],f,rfl,fun v j=>?_⟩;have:=hf v j;cases v<;>simp only [isKd]at this<;>try (cases this;done)
             rename_i l x;rw [ip]at this;grind
           grind
         grind
theorem fits_ok{kt:TypeId}{k:Value}(hf:bE E kt k=true):uG k=true:=by
 cases a:E.und kt with
 |none=>unfold bE at hf;simp [a]at hf| some d=>
   cases b:ie d with
   | true=>
     cases d<;>simp only [ie]at b<;>try (cases b;done)
     obtain⟨e,f,rfl,_,_,_,_,c⟩:=nI a hf;simp only [uG,Xa];intro v h;obtain⟨x,rfl⟩:=c v h;rfl
   | false=>
     unfold bE at hf;simp only [a]at hf;cases d<;>simp only []at hf<;>(try (cases hf;done))<;>(try (cases b;done))<;>(cases k<;>simp only []at hf<;>(try (cases hf;done))<;>rfl)

include ok in
theorem je {kt:TypeId} {k:Value} (hf:bE E kt k=true) (b:Bool) (w:World):(Instr.checkKey b 10000 kt k).run P w=.ok () w:=by
 cases f:E.und kt with
 |none=>unfold bE at hf;simp [f]at hf| some d=>
   show((Instr.checkKey b (9998+1+1) kt k)).run P w=_;cases h:ie d with
   | true=>
     cases d<;>simp only [ie]at h<;>try (cases h;done)
     rename_i n e;obtain⟨a,A,rfl,o,l,B,p,q⟩:=nI f hf;unfold Instr.checkKey;simp only [Sem.run_bind,bA ok f,Result.andThen_ok,dQ ok l];have g: ∀i,i<n-> ∃v,(part e a (i*1)).run P w=.ok v w/\(Instr.checkKey b (9998+1) e v).run P w=.ok () w:=by
      intro i r;have hlt:i<a.toList.length:=(by omega);obtain⟨x,t⟩:=q _ (List.getElem_mem hlt);refine⟨a.toList[i],?_,?_⟩
      . unfold part;have:a[i]? =some a.toList[i]:=(by grind);rw [Xs];simp only [Sem.run_bind,uk ok o,Result.andThen_ok];simp_all
      . rw [t];unfold Instr.checkKey;simp only [Sem.run_bind,bA ok p,Result.andThen_ok];rfl
     have u: ∀(m i:Nat),i+m<=n->(forIn (List.range' i m) PUnit.unit (fun i _=>do
      let s<-sizeOf e
      let c<-part e a (i*s)
      Instr.checkKey b (9998+1) e c
      pure (ForInStep.yield PUnit.unit)):Sem PUnit).run P w=.ok PUnit.unit w:=by
      intro m
      induction m with
      |zero=>intro i _;simp| succ m j=>
        intro i r;obtain⟨v,y,z⟩:=g i (by omega);simp only [List.range'_succ,List.forIn_cons,Sem.run_bind,dQ ok l,y,z,Result.andThen_ok];simpa using j (i+1) (by omega)
     simp_all
   | false=>
     unfold bE at hf;simp only [f]at hf;unfold Instr.checkKey;simp only [Sem.run_bind,bA ok f,Result.andThen_ok];cases d<;>simp only []at hf<;>(try (cases hf;done))<;>(try (cases h;done))
     all_goals rfl

theorem elems_arr {e:TypeId} {kd:IntKind} (g:E.agg e=some false) (w:E.und e=some (.int kd)): ∀(l m:List Value) {r:Bool},dz l m=some r->(∀v∈l,∃x,v=.int kd x)-> ∀(p q:List Value),p.length=q.length->nv E (ef E 39) e 1 (p++l) (q++m) l.length p.length=some r:=by
 intro l
 induction l with
 | nil=>
   intro m r h _ p q _;cases m with
   |nil=>simp only [dz]at h;cases h;rfl
   |cons b m=>simp [dz]at h
 | cons a l j=>
   intro m r h i p q c;obtain⟨x,rfl⟩:=i a (by simp);cases m with
   |nil=>simp [dz]at h| cons b m=>
     cases b<;>(try (simp [dz]at h;done));rename_i d y;simp only [dz]at h;have k:partOf E e (p++ .int kd x::l) (p.length*1)=some (.int kd x):=(by unfold partOf;rw [g];simp);have n:partOf E e (q++ .int d y::m) (p.length*1)=some (.int d y):=(by unfold partOf;rw [g,c];simp);cases o:i6 kd d with
     |false=>grind| true=>
       rw [o]at h;simp only [cond_true]at h;have s:ef E 39 e (.int kd x) (.int d y)=some (iI x y):=(by show ef E (38+1) e _ _=_;unfold ef;grind);cases f:dz l m with
       |none=>simp [f]at h| some z=>
         rw [f]at h;simp only []at h;simp only [List.length_cons,nv,k,n,s];cases t:iI x y with
         |false=>grind| true=>
           rw [t]at h;simp only [cond_true]at h;simp only [];cases h;have:=j m f (fun v u=>i v (by simp [u])) (p++[.int kd x]) (q++[.int d y]) (by simp [c]);simpa using this
theorem ao.ints(mu:Mu){cs:Array Value}(h: ∀v∈cs.toList,oP v=true):ao mu (.agg cs) (.agg cs):=by
 refine .agg rfl fun i v c b a=>?_;rw [b]at a;cases a;have:=h v (List.mem_of_getElem? b);cases v<;>simp only [oP]at this<;>try (cases this;done)
 exact .int _ _
include ok in
theorem zi{kt e:TypeId}{n:Nat}{k k':Value}{t:Bool}(mu:Mu)(c:E.und kt=some (.array n e))(hf:bE E kt k=true)(h:cd k k'=some t)(w:World):(Op.equal kt k k').run P w=.ok t w:=by
 obtain⟨a,o,rfl,d,f,p,g,i⟩:=nI c hf;unfold cd at h;cases k'<;>simp only []at h<;>try (cases h;done)
 rename_i b;obtain⟨j,l,_,_⟩:=rm _ _ h;have m:ef E 40 kt (.agg a) (.agg b)=some t:=by show ef E (39+1) kt (.agg a) (.agg b)=some t;unfold ef;simp only [c,f];have:=elems_arr d g a.toList b.toList h i [] [] rfl;grind
 exact AZ ok 40 Op.maxDepth (by decide) m (ao.ints mu j) (ao.ints mu l) w
theorem Ah{mu:Mu}{kt:TypeId}{k:Value}{d:TypeDesc}(l:ie d=false)(m:E.und kt=some d)(hf:bE E kt k=true){c:List (Value×Value×Nat)}{es':List MapEntry}(g:lZ mu c es')
 (h:a9 k c=some none) (i:Nat):Instr.findNow d k es' i=some none:=by
 induction c generalizing es' i with
 |nil=>rw [g.nil_left];rfl| cons e c o=>
   obtain⟨q,r,rfl,j,p⟩:=LR.cons_left g;obtain⟨a,b,n⟩:=e;simp only [a9]at h;cases f:cd k a with
   |none=>simp [f]at h| some t=>
     cases t with
     |true=>simp [f]at h| false=>simp only [f]at h;have:=sT l m hf f;simp only []at j;simp only [Instr.findNow,j.1,this];exact o p h _
include ok in
theorem AC{mu:Mu}{kt e:TypeId}{n:Nat}{k:Value}(j:E.und kt=some (.array n e))(hf:bE E kt k=true){c:List (Value×Value×Nat)}{es':List MapEntry}(f:lZ mu c es')
 (h:a9 k c=some none) (i:Nat) (w:World):(Instr.findAsking kt k es' i).run P w=.ok none w:=by
 induction c generalizing es' i with
 |nil=>rw [f.nil_left];rfl| cons x c l=>
   obtain⟨q,r,rfl,g,o⟩:=LR.cons_left f;obtain⟨a,b,m⟩:=x;simp only [a9]at h;cases d:cd k a with
   |none=>simp [d]at h| some t=>
     cases t with
     |true=>simp [d]at h| false=>simp only [d]at h;simp only []at g;have p:=zi ok mu j hf d w;simp only [Instr.findAsking,Sem.run_bind,g.1,p,Result.andThen_ok];simpa using l o h (i+1)
theorem uV{d:TypeDesc}{kt:TypeId}{k:Value}(a:ie d=true)(c:E.und kt=some d)(hf:bE E kt k=true)(x:MapEntry)(b:List MapEntry)(i:Nat):Instr.findNow d k (x::b) i=none:=by
 cases d<;>simp only [ie]at a<;>try (cases a;done)
 rfl
include ok in
theorem mX{mu:Mu}{kt:TypeId}{k:Value}{d:TypeDesc}(a:E.und kt=some d)(hf:bE E kt k=true){c:List (Value×Value×Nat)}{es':List MapEntry}(e:lZ mu c es')
 (h:a9 k c=some none) (w:World):(Instr.findKey kt k es').run P w=.ok none w:=by
 unfold Instr.findKey;simp only [Sem.run_bind,bA ok a,Result.andThen_ok];cases b:ie d with
 |false=>rw [Ah b a hf e h 0];rfl| true=>
   cases es' with
   |nil=>rfl| cons x es'=>
     rw [uV b a hf];cases d<;>simp only [ie]at b<;>try (cases b;done)
     exact AC ok a hf e h 0 w
include ok in
theorem find_some{mu:Mu}{kt:TypeId}{k:Value}{d:TypeDesc}(y:E.und kt=some d)(hf:bE E kt k=true){o:List (Value×Value×Nat)}{es':List MapEntry}(A:lZ mu o es')
 {v:Value} {n:Nat} (h:a9 k o=some (some (v,n))) (w:World) (i:Nat):
 ∃ j g,es'[j]? =some g/\(ie d=false->Instr.findNow d k es' i=some (some (i+j,g.val)))/\(ie d=true->(Instr.findAsking kt k es' i).run P w=.ok (some (i+j,g.val)) w)/\ao mu v g.val/\g.born=n/\cd k g.key=some true/\
   (∀p c,ao mu p c->lZ mu (jj k p o) (es'.set j {g with key:=k,val:=c}))/\lZ mu (kj k o) (es'.eraseIdx j):=by
 have ask:ie d=true-> ∀{a:Value} {t:Bool},cd k a=some t->(Op.equal kt k a).run P w=.ok t w:=fun z a t f=>by
  cases d<;>simp only [ie]at z<;>try (cases z;done)
  exact zi ok mu y hf f w
 induction o generalizing es' i with
 |nil=>simp [a9]at h| cons e o B=>
   obtain⟨g,r,rfl,l,s⟩:=LR.cons_left A;obtain⟨a,b,m⟩:=e;simp only [a9]at h;simp only []at l;cases f:cd k a with
   |none=>simp [f]at h| some t=>
     cases t with
     | true=>
       simp only [f]at h;cases h;have u:uG k=true:=fits_ok hf;refine⟨0,g,rfl,fun q=>by simp [Instr.findNow,l.1,sT q y hf f],fun q=>by simp [Instr.findAsking,Sem.run_bind,l.1,ask q f],l.2.2.1,l.2.2.2,by grind,?_,?_⟩
       . intro p c x;simp only [jj,f,List.set_cons_zero];exact LR.cons ⟨rfl,u,x,l.2.2.2⟩ s
       . simp only [kj,f,List.eraseIdx_zero];exact s
     | false=>
       simp only [f]at h;obtain⟨j,C,D,K,F,G,g4,H,I,J⟩:=B s h (i+1);refine⟨j+1,C,by simpa using D,fun q=>?_,fun q=>?_,G,g4,H,?_,?_⟩
       . grind[Instr.findNow,sT,hf]
       . grind[Instr.findAsking,Sem.run_bind,ask,Result.andThen_ok]
       . intro p c x;simp only [jj,f,List.set_cons_succ];exact LR.cons l (I p c x)
       . simp only [kj,f,List.eraseIdx_cons_succ];exact LR.cons l J
include ok in
theorem mD{mu:Mu}{kt:TypeId}{k:Value}{d:TypeDesc}(f:E.und kt=some d)(hf:bE E kt k=true){e:List (Value×Value×Nat)}{es':List MapEntry}(o:lZ mu e es')
 {v:Value} {n:Nat} (h:a9 k e=some (some (v,n))) (w:World):
 ∃ j a,es'[j]? =some a/\(Instr.findKey kt k es').run P w=.ok (some (j,a.val)) w/\ao mu v a.val/\a.born=n/\cd k a.key=some true/\
   (∀i b,ao mu i b->lZ mu (jj k i e) (es'.set j {a with key:=k,val:=b}))/\lZ mu (kj k e) (es'.eraseIdx j):=by
 obtain⟨j,a,l,m,c,p,q,r,s,t⟩:=find_some ok f hf o h w 0;refine⟨j,a,l,?_,p,q,r,s,t⟩;unfold Instr.findKey;simp only [Sem.run_bind,bA ok f,Result.andThen_ok];rw [Xr]at m c;cases g:ie d with
 |false=>rw [m g];rfl| true=>
   cases es' with
   |nil=>simp at l|cons x es'=>rw [uV g f hf];exact c g
theorem CH{mu:Mu}{n:Nat}{v v':Value}(o:ao mu v v'){c es2:List (Value×Value×Nat)}{es':List MapEntry}(p:lZ mu c es')(h:iU n v c=some es2):
 ∃j g,es'.findIdx? (fun e=>(e.born:Int)==(n:Int))=some j/\es'[j]? =some g/\lZ mu es2 (es'.set j {g with val:=v'}):=by
 induction c generalizing es' es2 with
 |nil=>simp [iU]at h| cons e c q=>
   obtain⟨g,r,rfl,d,k⟩:=LR.cons_left p;obtain⟨a,b,m⟩:=e;simp only [iU,cC]at h;simp only []at d;by_cases f:m=n
   . subst f;simp only [decide_true,cond_true]at h;cases h;refine⟨0,g,?_,rfl,?_⟩
     . grind
     . exact LR.cons ⟨d.1,d.2.1,o,d.2.2.2⟩ k
   . simp only [f,decide_false,cond_false]at h;cases i:iU n v c with
     |none=>simp [i]at h| some l=>
       simp only [i]at h;cases h;obtain⟨j,s,w,t,u⟩:=q k i;refine⟨j+1,s,?_,by simpa using t,?_⟩
       . grind
       . simp only [List.set_cons_succ];exact LR.cons d u
end
end Go.Ab

namespace Go.Ab

def mV(mu:Mu)(d e:Deferred):Prop:=match d.target with
 | .fn (.func f) g=> ∃a,e.target=.fn (.func f) a/\VL mu g.toList a.toList/\VL mu d.args.toList e.args.toList| .collected b=> ∃c,e.target=.collected c/\dI mu b c|_=>False

theorem sf{a:Type}{l:List a}{j:Nat}{e:a}(h:l[j]? =some e)(f:a->a):l.modify j f=l.set j (f e):=by apply List.ext_getElem?;grind

section
variable{E:Env}{P:Program}(ok:EOk E P)

def Res(P:Program)(mu:Mu)(h:Hp)(w:World)(s:Sem Next)(i:Hp):dw->Prop
 | .val v=> ∃k e j,s.run P w=.ok (.value k) j/\aM e i j/\Ext mu h w e i j/\ao e v k| .skip=> ∃e j,s.run P w=.ok .skip j/\aM e i j/\Ext mu h w e i j| .call f g=>i=h/\ ∃a,s.run P w=(callFunc f a).run P w/\VL mu g a.toList| .yield b g=>i=h/\ ∃c a,s.run P w=(Instr.yield c a).run P w/\dI mu b c/\VL mu g a.toList| .recov=>i=h/\s.run P w=.ok .recover w| .defer d=>i=h/\ ∃l,s.run P w=.ok (.defer l) w/\mV mu d l| .panic v=>i=h/\ ∃k,s.run P w=.halt (.panic k) w/\ao mu v k

theorem AB{w:World}{r:Nat}{o:Obj}(h: ∃q,w.heap[r]? =some q):WSet w {w with heap:=w.heap.setIfInBounds r o} r o:=by obtain⟨q,a⟩:=h;have b:r<w.heap.size:=(Array.getElem?_eq_some_iff.1 a).1;refine⟨by simp,by simp [b],fun j c=>?_,rfl,rfl,rfl⟩;grind

theorem wQ{mu:Mu}{h:Hp}{w:World}(f:aM mu h w){b c:Nat}(d:dI mu b c){g:List (Value×Value×Nat)}{a:Nat}(k:h.get b=some (.map g a)):
 ∃top es',mu b=.blk c 0 top/\w.heap[c]? =some (.map es' a)/\lZ mu g es'.toList:=by
 unfold dI at d;cases e:mu b with
 |none=>grind|dead=>have:=f.dead _ e;grind| blk m i top=>
   rw [e]at d;obtain⟨rfl,rfl⟩:=d;obtain⟨y,o,j,n,l⟩:=f.blk _ c 0 top e;rw [k]at j;cases j;obtain⟨_,es',rfl,p⟩:=l;grind
theorem m9{mu:Mu}{h:Hp}{w:World}(e:aM mu h w){b c top:Nat}{f es2:List (Value×Value×Nat)}{a clock2:Nat}(j:h.get b=some (.map f a))(g:mu b=.blk c 0 top)
 {es' es2':Array MapEntry} (d:w.heap[c]? =some (.map es' a)) (i:lZ mu es2 es2'.toList):
 (setObj c (.map es2' clock2)).run P w=.ok () {w with heap:=w.heap.setIfInBounds c (.map es2' clock2)}/\
 aM mu (h.put b (.map es2 clock2)) {w with heap:=w.heap.setIfInBounds c (.map es2' clock2)}/\Ext mu h w mu (h.put b (.map es2 clock2)) {w with heap:=w.heap.setIfInBounds c (.map es2' clock2)}:=by
 refine⟨by simp [setObj,Sem.run,d],?_⟩;exact vW e g (by grind) (AB ⟨_,d⟩) ⟨rfl,es2',rfl,i⟩
theorem jE{w:World}{c:Nat}{b:Array MapEntry}{a:Nat}(d:w.heap[c]? =some (.map b a)):(getObj c).run P w=.ok (.map b a) w:=by simp [getObj,Sem.run,d]

include ok
theorem yD{mu:Mu}{h:Hp}{w:World}(o:aM mu h w){t:TypeId}{x x' v:Value}(c:eK E h t x=some v)(p:ao mu x x'):
 ∃v',(Instr.loadAt t x').run P w=.ok v' w/\ao mu v v':=by
 unfold eK at c;cases p<;>(try simp only []at c)<;>try (cases c;done)
 rename_i a q e;unfold Instr.loadAt;simp only [Instr.sureAddr,Sem.run_bind,Sem.run_pure,Result.andThen_ok];unfold loadVar;cases g:E.agg t with
 |none=>simp [g]at c| some b=>
   simp only [Sem.run_bind,uk ok g,Result.andThen_ok];cases b with
   | true=>
     simp only [g]at c;cases j:E.sz t with
     |none=>simp [j]at c| some n=>
       simp only [j]at c;cases d:h.load a.block a.off n with
       |none=>simp [d]at c| some l=>
         simp only [d]at c;cases c;obtain⟨k,i,f,m⟩:=vK o e d;have:=run_loadCells_list (P:=P) w q i m;have s:i.length=n:=(by rw [<-f.1];exact k);rw [s]at this;exact⟨.agg i.toArray,by simp [dQ ok j,this],.agg f.1 f.2⟩
   | false=>
     simp only [g]at c;cases d:h.load a.block a.off 1 with
     |none=>simp [d]at c| some l=>
       simp only [d]at c;obtain⟨k,i,f,m⟩:=vK o e d
       match l,k with
       | [u],_=>
         simp only []at c;cases c;obtain⟨y,r,rfl,z,A⟩:=f.cons_left;have:=m 0 y (by simp);simp_all[Addr.add]
theorem C8{mu:Mu}{h e:Hp}{w:World}(l:aM mu h w){t:TypeId}{x x' v v':Value}(c:jm E h t x v=some e)(m:ao mu x x')(o:ao mu v v'):
 ∃w',(Instr.storeAt t x' v').run P w=.ok () w'/\aM mu e w'/\Ext mu h w mu e w':=by
 unfold jm at c;cases m<;>(try simp only []at c)<;>try (cases c;done)
 rename_i a s f;cases g:E.sz t with
 |none=>simp [g]at c| some n=>
   simp only [g]at c;have i: ∀y,v≠ .chan y:=(by grind);have b:(bif zB (ae v).length n then h.store a.block a.off (ae v)else none)=some e:=(by grind);rw [cC]at b;by_cases k:(ae v).length=n
   . simp only [k,decide_true,cond_true]at b;have d:=o.cells i;obtain⟨w',p,q,r⟩:=qV (P:=P) l f b d;refine⟨w',?_,q,r⟩;have j:v'.cells.size=n:=(by rw [<-k];exact d.1.symm);simp [Instr.storeAt,Instr.sureAddr,storeVar,dQ ok g,j,p]
   grind

omit ok in
theorem tM {mu:Mu} {kt:TypeId} {k k':Value} (hf:bE E kt k=true) (e:ao mu k k'):k'=k/\uG k=true/\ ∃kd,E.und kt=some kd:=by
 unfold bE at hf;cases a:E.und kt with
 |none=>simp [a]at hf| some kd=>
   cases b:ie kd with
   | true=>
     cases kd<;>simp only [ie]at b<;>try (cases b;done)
     have c:=fits_ok (E:=E) (kt:=kt) (k:=k) (by unfold bE;exact hf);obtain⟨h,kd,rfl,_,_,_,_,j⟩:=nI a (by unfold bE;exact hf);refine⟨?_,c,_,rfl⟩;cases e with
     | @agg _ f l m=>
       have:h.toList=f.toList:=(by refine List.ext_getElem l fun i g d=>?_;obtain⟨x,n⟩:=j _ (List.getElem_mem g);have:=m i _ _ (Xf g) (Xf d);rw [n]at this⊢;generalize f.toList[i]=u at this;cases this;rfl);simp_all
   | false=>
     simp only [a]at hf;cases kd<;>simp only []at hf<;>(try (cases hf;done))<;>(try (cases b;done))<;>(cases e<;>simp only []at hf<;>(try (cases hf;done))<;>exact⟨rfl,rfl,_,rfl⟩)

theorem Cb {mu:Mu} {h:Hp} {w:World} (L:aM mu h w) {t:TypeId} {m G k k' v:Value} {q:Bool} (a:dC E h t m k q=some v) (M:ao mu m G) (N:ao mu k k'):
 ∃v',(Instr.lookup t G k' q).run P w=.ok v' w/\ao mu v v':=by
 unfold dC at a;cases o:E.und t with
 |none=>simp [o]at a| some d=>
   simp only [o]at a;cases d<;>simp only []at a<;>try (cases a;done)
   rename_i H el;cases hf:bE E H k with
   |false=>simp [hf]at a| true=>
     simp only [hf,cond_true]at a;have s:k'=k:=(tM (E:=E) hf N).1;subst s;have A: ∀{z y:Value},ao mu z y-> ∀b,ao mu (bif q then .tuple #[z,.bool b]else z) (if q then .tuple #[y,.bool b]else y):=by
      intro z y i b;cases q with
      |false=>exact i| true=>have:VL mu [z,.bool b] [y,.bool b]:=LR.cons i (LR.cons (.bool b) LR.nil);exact .tuple this.1 this.2
     obtain⟨I,g⟩: ∃I,E.und H=some I:=(by unfold bE at hf;grind);have f:(match E.zeroV el with|none=>none|some z=>some (bif q then .tuple #[z,.bool false]else z))=some v->
      ∃z,(zeroValue el).run P w=.ok z w/\ao mu v (if q then .tuple #[z,.bool false]else z):=by
      intro i;cases l:E.zeroV el with
      |none=>simp [l]at i| some z=>simp only [l]at i;grind[qO]
     unfold Instr.lookup;simp only [Sem.run_bind,bA ok o,Result.andThen_ok];cases M<;>(try simp only []at a)<;>try (cases a;done)
     . obtain⟨z,B,C⟩:=f a;refine⟨_,?_,C⟩;simp [je ok hf,Instr.findKey,bA ok g,Instr.findNow,B]
     . rename_i b c O;cases D:h.get b with
       |none=>simp [D]at a| some x=>
         simp only [D]at a;cases x<;>simp only []at a<;>try (cases a;done)
         rename_i Q F;obtain⟨R,S,V,J,K⟩:=wQ L O D;cases e:a9 k' Q with
         |none=>simp [e]at a| some r=>
           cases r with
           | none=>
             simp only [e]at a;obtain⟨z,B,C⟩:=f a;refine⟨_,?_,C⟩;simp [je ok hf,jE J,mX ok g hf K e,B]
           | some p=>
             obtain⟨u,n⟩:=p;simp only [e]at a;cases a;obtain⟨j,W,X,T,U,_⟩:=mD ok g hf K e w;refine⟨_,?_,A U true⟩;simp [je ok hf,jE J,T]

omit ok in
theorem tP{mu:Mu}{h:Hp}{w:World}(l:aM mu h w){t:TypeId}{m i k k':Value}{r a:Nat}{f:List (Value×Value×Nat)}{el:TypeId}(e:jy E h t m k=some (r,f,a,el))
 (n:ao mu m i) (o:ao mu k k'): ∃kt kd c top es',E.und t=some (.map kt el)/\E.und kt=some kd/\bE E kt k=true/\k'=k/\uG k=true/\i=.map (some c)/\h.get r=some (.map f a)/\
  mu r=.blk c 0 top/\w.heap[c]? =some (.map es' a)/\lZ mu f es'.toList:=by
 unfold jy at e;cases j:E.und t with
 |none=>simp [j]at e| some d=>
   simp only [j]at e;cases d<;>simp only []at e<;>try (cases e;done)
   rename_i kt p;cases hf:bE E kt k with
   |false=>simp [hf]at e| true=>
     simp only [hf,cond_true]at e;obtain⟨s,u,kd,v⟩:=tM (E:=E) hf o;cases n<;>(try simp only []at e)<;>try (cases e;done)
     rename_i b c q;cases g:h.get b with
     |none=>simp [g]at e| some x=>
       simp only [g]at e;cases x<;>simp only []at e<;>try (cases e;done)
       cases e;obtain⟨top,es',y,z,A⟩:=wQ l q g;grind

theorem xK {mu:Mu} {h i:Hp} {w:World} (l:aM mu h w) {t:TypeId} {m z k k' v v':Value} (d:dY E h t m k v=some i) (C:ao mu m z) (D:ao mu k k') (F:ao mu v v'):
 ∃w',(Instr.mapUpdate t z k' v').run P w=.ok () w'/\aM mu i w'/\Ext mu h w mu i w':=by
 unfold dY at d;cases o:jy E h t m k with
 |none=>simp [o]at d| some q=>
   obtain⟨r,s,a,el⟩:=q;simp only [o]at d;obtain⟨O,Q,c,G,f,H,A,x,rfl,I,rfl,e7,e8,y,g⟩:=tP l o C D;unfold Instr.mapUpdate;simp only [Sem.run_bind,bA ok H,Result.andThen_ok,jE y,je ok x];cases b:a9 k' s with
   |none=>simp [b]at d| some p=>
     cases p with
     | none=>
       simp only [b]at d;cases d;have J:=mX ok A x g b w;obtain⟨K,L,M⟩:=m9 (P:=P) l e7 e8 y (es2:=s++[(k',v,a)]) (es2':=f.push {key:=k',val:=v',born:=a}) (clock2:=a+1) (by
        simp only [Array.toList_push];exact LR.append g (LR.cons ⟨rfl,I,F,rfl⟩ LR.nil))
       simp_all
     | some u=>
       obtain⟨u,n⟩:=u;simp only [b]at d;cases d;obtain⟨j,B,R,S,T,U,V,W,X⟩:=mD ok A x g b w;have Y:f[j]? =some B:=(by grind);have N:(Instr.keyThatStays B.key k').run P w=.ok k' w:=(by simp_all[Instr.keyThatStays,Instr.sameBits,qP,xJ]);obtain⟨K,L,M⟩:=m9 (P:=P) l e7 e8 y (es2:=jj k' v s) (es2':=f.modify j fun e=>{e with key:=k',val:=v'}) (clock2:=a) (by
        grind[Xj,sf])
       simp_all
end
end Go.Ab

namespace Go.Ab
section
variable{E:Env}{P:Program}(ok:EOk E P)
include ok

theorem C9 {mu:Mu} {h i:Hp} {w:World} (o:aM mu h w) {t ty:TypeId} {ts:Array TypeId} {xs:Array Value} {m B k k':Value} (F:ts[0]? =some t) (s:xs[0]? =some B) (v:xs[1]? =some k')
 (d:mR E h t m k=some i) (G:ao mu m B) (H:ao mu k k'):
 ∃w',(Builtin.delete_ ts ty xs).run P w=.ok (.tuple #[]) w'/\aM mu i w'/\Ext mu h w mu i w':=by
 unfold mR at d;cases y:jy E h t m k with
 |none=>simp [y]at d| some q=>
   obtain⟨r,e,a,el⟩:=q;simp only [y]at d;obtain⟨O,Q,c,I,f,J,C,z,rfl,R,rfl,e7,e8,A,g⟩:=tP o y G H;unfold Builtin.delete_;simp only [F,s,v,Sem.run_bind,bA ok J,Result.andThen_ok,jE A,je ok z];cases b:a9 k' e with
   |none=>simp [b]at d| some p=>
     simp only [b]at d;cases d;cases p with
     | none=>
       have K:=mX ok C z g b w;have D:kj k' e=e:=by
        have: ∀l:List (Value×Value×Nat),a9 k' l=some none->kj k' l=l:=by
         intro l
         induction l with
         |nil=>intro _;rfl| cons x l S=>grind[a9,kj,cd]
        grind
       obtain⟨L,M,N⟩:=m9 (P:=P) o e7 e8 A (es2:=kj k' e) (es2':=f) (clock2:=a) (by grind);simp_all
     | some u=>
       obtain⟨u,n⟩:=u;obtain⟨j,T,U,V,W,X,Y,Z,f7⟩:=mD ok C z g b w;obtain⟨L,M,N⟩:=m9 (P:=P) o e7 e8 A (es2:=kj k' e) (es2':=f.eraseIdxIfInBounds j) (clock2:=a) (by
        simp_all)
       simp_all

theorem Dv {mu:Mu} {h l:Hp} {w:World} (o:aM mu h w) {t:TypeId} {m J k k' v:Value} (d:jM E h t m k=some (l,v)) (N:ao mu m J) (O:ao mu k k'):
 ∃v' w',(Instr.mapEntry t J k').run P w=.ok v' w'/\aM mu l w'/\Ext mu h w mu l w'/\ao mu v v':=by
 have s: ∀{z y:Value},ao mu z y-> ∀n:Nat,ao mu (.tuple #[z,.int .i64 (.ofNat n)]) (.tuple #[y,goInt (n:Int)]):=by intro z y i n;have:VL mu [z,.int .i64 (.ofNat n)] [y,goInt (n:Int)]:=LR.cons i (LR.cons (.int _ _) LR.nil);exact .tuple this.1 this.2
 unfold jM at d;cases x:jy E h t m k with
 |none=>simp [x]at d| some q =>
   obtain⟨r,A,a,el⟩:=q;simp only [x]at d;obtain⟨W,X,c,Q,f,R,K,B,rfl,S,rfl,e7,e8,C,g⟩:=tP o x N O;unfold Instr.mapEntry;simp only [Sem.run_bind,bA ok R,Result.andThen_ok,jE C,je ok B];cases b:a9 k' A with
   |none=>simp [b]at d| some p=>
     cases p with
     | none=>
       simp only [b]at d;cases i:E.zeroV el with
       |none=>simp [i]at d| some z=>
         simp only [i]at d;cases d;obtain⟨T,L⟩:=qO ok i w mu;have D:=mX ok K B g b w;obtain⟨F,G,H⟩:=m9 (P:=P) o e7 e8 C (es2:=A++[(k',z,a)]) (es2':=f.push {key:=k',val:=z,born:=a}) (clock2:=a+1) (by
          simp only [Array.toList_push];exact LR.append g (LR.cons ⟨rfl,S,L,rfl⟩ LR.nil))
         exact⟨_,_,by simp [D,T,F],G,H,s L a⟩
     | some u=>
       obtain⟨u,n⟩:=u;simp only [b]at d;cases d;obtain⟨j,M,Y,U,Z,f4,f5,f6,f7⟩:=mD ok K B g b w;have V:f[j]? =some M:=(by grind);have I:(Instr.keyThatStays M.key k').run P w=.ok k' w:=(by simp_all[Instr.keyThatStays,Instr.sameBits,qP,xJ]);obtain⟨F,G,H⟩:=m9 (P:=P) o e7 e8 C (es2:=jj k' u A) (es2':=f.modify j fun e=>{e with key:=k'}) (clock2:=a) (by
        grind[Xj,sf])
       refine⟨_,_,by simp [U,V,I,F];rfl,G,H,?_⟩;grind

omit ok in
theorem Ao {mu:Mu} {h p:Hp} {w:World} (y:aM mu h w) {t:TypeId} {m z s s' v v':Value} (a:mg h m s v=some p) (B:ao mu m z) (C:ao mu s s') (D:ao mu v v'):
 ∃w',(Instr.entryStore t z s' v').run P w=.ok () w'/\aM mu p w'/\Ext mu h w mu p w':=by
 unfold mg at a;cases B<;>(try simp only []at a)<;>try (cases a;done)
 rename_i b c F;cases o:h.get b with
 |none=>simp [o]at a| some x=>
   simp only [o]at a;cases x<;>(try simp only []at a)<;>try (cases a;done)
   rename_i G d;obtain⟨H,f,e8,A,q⟩:=wQ y F o;cases C<;>(try simp only []at a)<;>try (cases a;done)
   rename_i k i;cases r:fm i with
   |none=>simp [r]at a| some n=>
     have:=qD r;subst this;simp only [r]at a;cases g:iU n v G with
     |none=>simp [g]at a| some es2=>
       simp only [g]at a;cases a;obtain⟨j,M,I,N,O⟩:=CH D q g;obtain⟨J,K,L⟩:=m9 (P:=P) y o e8 A (es2:=es2) (es2':=f.modify j fun e=>{e with val:=v'}) (clock2:=d) (by
        grind[Xj,sf])
       have u:f.findIdx? (fun e=>(e.born:Int)==(n:Int))=some j:=(by obtain⟨l⟩:=f;simpa using I);exact⟨_,by simp [Instr.entryStore,jE A,asInt,asIntOf,u,J],K,L⟩

omit ok in
theorem oE(a:List Value)(n:Nat):(aU a n).length=n*a.length:=by
 induction n with
 |zero=>simp [aU]|succ n b=>simp [aU,b,Nat.succ_mul];omega
omit ok in
theorem Au(b:List Value)(n i:Nat)(h:i<n*b.length):(aU b n)[i]? =b[i%b.length]? :=by
 induction n generalizing i with
 |zero=>simp at h| succ n d=>
   simp only [aU];by_cases c:i<b.length
   . rw [Xe c,Nat.mod_eq_of_lt c]
   . rw [Xd (by omega),d _ (by grind)];rw [Nat.mod_eq_sub_mod (a:=i) (by omega)]
omit ok in
theorem yV{mu:Mu}{z:Value}{a:List Value}(d:z.cells.toList=a)(j:a.all cR=true)(c:Nat):
 VL mu (aU a c) ((Xn (c*a.length)).map (z.cells[· %z.cells.size]!)).toList:=by
 have e:z.cells.size=a.length:=by rw [<-d];rfl
 refine⟨by simp [oE],fun i v k f g=>?_⟩;have h:i<c*a.length:=by grind
 rw [Au _ _ _ h]at f;have b:0<a.length:=by grind
 have l:i%a.length<a.length:=Nat.mod_lt _ b;grind[Xb,Array.toList_range,List.getElem?_range,List.getElem?_eq_some_iff,Xa,ao.const]

omit ok in
theorem A0{mu:Mu}{v v':Value}{n:Nat}(h:natV v=some n)(a:ao mu v v'): ∃k,v'=.int k (n:Int):=by
 unfold natV at h;cases a<;>(try simp only []at h)<;>try (cases h;done)
 rename_i k i;exact⟨k,by rw [qD h]⟩
omit ok in
theorem wrap_small{n:Nat}(h:n<=70368744177664):IntKind.i64.wrap (n:Int)=n:=by rw [<-iK];show(bif Xo n 9223372036854775808 then _ else _)=_;grind[iN]
omit ok in
theorem ij(w:World)(o:Obj):WNew w {w with heap:=w.heap.push o} o:=⟨rfl,rfl,rfl,rfl⟩
omit ok in
theorem yH(mu:Mu)(b c top n cap cap' k:Nat)(h:n<=cap)(a:cap<=cap')(d:cap'*k<=top):ao (upd mu b (.blk c 0 top)) (.slice (some ⟨b,0,some k⟩) n cap) (.slice (some ⟨c,0,none⟩) n cap'):=by refine .slice h ?_;simp_all[d7,upd_same,trivial]
omit ok in
theorem p9(mu:Mu)(b c top n cap:Nat)(h:n<=cap):ao (upd mu b (.blk c 0 top)) (.slice (some ⟨b,0,none⟩) n cap) (.slice (some ⟨c,0,none⟩) n cap):=by refine .slice h ?_;grind[d7,upd_same]

theorem yv {mu : Mu} {h D:Hp} {w:World} (F:aM mu h w) {t:TypeId} {l l' c c' v:Value} (b:jz E h t l c=some (D,v)) (S:ao mu l l') (T:ao mu c c'):
 ∃v' r w',(Instr.makeSlice t l' c').run P w=.ok v' w'/\aM r D w'/\Ext mu h w r D w'/\ao r v v':=by
 unfold jz at b;cases G:E.und t with
 |none=>simp [G]at b| some d=>
   simp only [G]at b;cases d<;>(try simp only []at b)<;>try (cases b;done)
   rename_i e;cases H:natV l with
   |none=>simp [H]at b| some n=>
     cases O:natV c with
     |none=>grind| some m=>
       obtain⟨U,rfl⟩:=A0 H S;obtain⟨V,rfl⟩:=A0 O T;simp only [H,O]at b;cases A:E.ty e with
       |none=>simp [A]at b| some i =>
         simp only [A,d9]at b;by_cases s:n<=m/\m*(i.bytes+1)<=70368744177664
         . obtain ⟨B,W⟩:=s;simp only [B,W,decide_true,Xm,cond_true]at b;cases I:E.zero e with
           |none=>simp [I]at b| some J=>
             simp only [I,cC]at b;by_cases g:J.length=i.size
             . simp only [g,decide_true,cond_true]at b;obtain⟨z,C,X,z3,Y⟩:=nY ok I w;have K:m<=70368744177664:=(by grind);have L:n<=70368744177664:=(by omega);have Z: ¬((i.bytes:Int)*(m:Int)>2 ^48):=(by grind);have u:E.sz e=some i.size:=(by unfold Env.sz;rw [A]);have a:=yV (mu:=mu) X Y m;obtain⟨k,M⟩: ∃k,k=(Xn (m*J.length)).map (z.cells[· %z.cells.size]!):=⟨_,rfl⟩;rw [<-M]at a;have x:(Instr.makeSlice t (.int U n) (.int V m)).run P w=.ok (.slice (some ⟨w.heap.size,0,none⟩) n m) {w with heap:=w.heap.push (.cells k e)}:=by
                unfold Instr.makeSlice;simp only [Sem.run_bind,bA ok G,Result.andThen_ok,asInt,asIntOf,Sem.run_pure,mZ ok A,wrap_small K,wrap_small L];have c1:(decide ((m:Int)<0)||decide ((i.bytes:Int)*(m:Int)>2 ^48))=false:=(by grind);have c2:((decide ((m:Int)<0)||decide ((i.bytes:Int)*(m:Int)>2 ^48))||decide ((n:Int)<0)||decide ((n:Int)>(m:Int)))=false:=(by grind);rw [if_neg (by rw [c2];simp)];simp only [Sem.run_bind,run_askRoom,Result.andThen_ok,dQ ok u,Int.toNat_natCast];by_cases y:m*i.size=0
                . have:k=#[]:=(by grind);rw [if_pos y];simp [newRow,y,this];grind
                simp_all[if_neg,newRow]
               rw [x];have Q:k.size=m*i.size:=by grind
               match J,b,a,g with
               | [],b,a,g=>
                 cases b;have f:(aU [] m).length=m*i.size:=(by rw [oE,<-g]);obtain⟨o,p⟩:=qc (w':={w with heap:=w.heap.push (.cells k e)}) F (l:=aU [] m) (l':=k) (el:=e) a (ij w _) (t:=Tr.ofList (aU [] m)) (Tr.sized_ofList _) (Tr.get_ofList _);rw [f]at o p;exact⟨_,_,_,rfl,o,p,p9 mu h.n w.heap.size k.size n m B⟩
               | [q],b,a,g=>
                 cases b;have f:(aU [q] m).length=m:=(by rw [oE];simp);obtain⟨o,p⟩:=qc (w':={w with heap:=w.heap.push (.cells k e)}) F (l:=aU [q] m) (l':=k) (el:=e) a (ij w _) (t:=Tr.blank q m m) (by simp_all[Tr.sized_blank,Xh]) (by
                  intro j;rw [Tr.get_blank q m m (Xh _)];by_cases R:j<m
                  . rw [if_pos R,Au _ _ _ (by simpa using R)];grind
                  grind)
                 rw [f]at o p;exact⟨_,_,_,rfl,o,p,p9 mu h.n w.heap.size k.size n m B⟩
               | q::C::N,b,a,g=>
                 cases b;have f:(aU (q::C::N) m).length=m*i.size:=(by rw [oE,<-g]);obtain⟨o,p⟩:=qc (w':={w with heap:=w.heap.push (.cells k e)}) F (l:=aU (q::C::N) m) (l':=k) (el:=e) a (ij w _) (t:=Tr.ofList (aU (q::C::N) m)) (Tr.sized_ofList _) (Tr.get_ofList _);rw [f]at o p;exact⟨_,_,_,rfl,o,p,p9 mu h.n w.heap.size k.size n m B⟩
             grind
         grind

theorem xu {mu : Mu} {h o:Hp} {w:World} (C:aM mu h w) {t:TypeId} {n:Nat} {b a:List (Nat×Value)} {v:Value} (c:jQ E h t n b=some (o,v)) (hq:PL mu b a):
 ∃v' f w',(Instr.buildSlice t n a.toArray).run P w=.ok v' w'/\aM f o w'/\Ext mu h w f o w'/\ao f v v':=by
 unfold jQ at c;cases p:E.und t with
 |none=>simp [p]at c| some d=>
   simp only [p]at c;cases d<;>(try simp only []at c)<;>try (cases c;done)
   rename_i e;cases s:E.sz e with
   |none=>simp [s]at c| some k=>
     simp only [s,d9]at c;by_cases D:n*k<=16777216
     . simp only [D,decide_true,cond_true]at c;cases u:E.zero e with
       |none=>simp [u]at c| some x =>
         simp only [u,cC]at c;by_cases y:x.length=k
         . simp only [y,decide_true,cond_true]at c;cases hf:kf (fun i=>some (i*k,k)) (aU x n) b with
           |none=>simp [hf]at c| some B=>
             simp only [hf]at c;cases c;obtain⟨z,N,F,O,G⟩:=nY ok u w;have g:=yV (mu:=mu) F G n;obtain⟨m,H,I⟩:=tH (place':=fun i=>some (i*k,k)) (fun i r J=>J) hf g hq;have j:(Instr.buildSlice t n a.toArray).run P w=.ok (.slice (some ⟨w.heap.size,0,none⟩) n n) {w with heap:=w.heap.push (.cells m e)}:=by
              unfold Instr.buildSlice;simp only [Sem.run_bind,bA ok p,Result.andThen_ok,dQ ok s];rw [if_neg (by omega)];by_cases A:n*k=0
              . have K: ∀q:Array Value,(Xn (n*k)).map (q[· %q.size]!)=(Xn (n*x.length)).map (z.cells[· %z.cells.size]!):=(by grind);rw [if_pos A];simp only [Sem.run_bind,Sem.run_pure,Result.andThen_ok];rw [K,H];simp [newRow]
              simp_all[if_neg,Sem.run_bind,Result.andThen_ok,Sem.run_pure,newRow]
             rw [j];obtain⟨L,M⟩:=qc (w':={w with heap:=w.heap.push (.cells m e)}) C (l:=B) (l':=m) (el:=e) I (ij w _) (t:=Tr.ofList B) (Tr.sized_ofList _) (Tr.get_ofList _);exact⟨_,_,_,rfl,L,M,p9 mu h.n w.heap.size m.size n n (Xh _)⟩
         grind
     grind
end
end Go.Ab

namespace Go.Ab
section
variable{E:Env}{P:Program}(ok:EOk E P)

theorem Ci{b:Tr Value}{a off m:Nat}{new:List Value}{t2:Tr Value}{s2:Nat}(c:b.Sized a)(h:jJ b a off m new=some (t2,s2)):
 off+m<=a/\s2=m+new.length/\t2.Sized s2/\(∀i,i<m->t2.get i=b.get (off+i))/\ ∀i,m<=i->t2.get i=new[i-m]? :=by
 unfold jJ at h;rw [cC,cC]at h;by_cases e:off=0/\m=a
 . obtain⟨rfl,rfl⟩:=e;simp only [decide_true,Xm,cond_true]at h;cases h;refine⟨by omega,rfl,Tr.sized_pushAll _ c,fun i d=>?_,fun i d=>?_⟩
   . rw [Tr.get_pushAll _ _ _ c,if_pos d,Xr]
   simp_all[Tr.get_pushAll,if_neg]
 . have:(decide (off=0)&&decide (m=a))=false:=(by grind);rw [this,d9]at h;simp only [cond_false]at h;by_cases hle:off+m<=a
   . simp only [hle,decide_true,cond_true]at h;grind[Tr.slice_spec,List.length_append,Tr.sized_ofList,Tr.get_ofList,Xe,Xd]
   grind

theorem pI{mu:Mu}{a e:Addr}{cap cap':Nat}(b:d7 mu a cap e cap')(i:cap≠0):eH mu a e:=by
 unfold d7 at b;unfold eH;cases f:mu a.block with
 |none=>grind|dead=>trivial| blk c d h=>
   rw [f]at b;cases g:a.spot with
   |none=>grind| some q=>
     rw [g]at b;simp only []at b⊢;obtain⟨_,j,k,_,l⟩:=b;have:e.off=d+a.off:=(by omega);cases e;grind

theorem la {mu:Mu} {h:Hp} {w:World} (p:aM mu h w) {a e:Addr} {len cap cap' k:Nat} (q:len<=cap) (r:d7 mu a cap e cap') {l:List Value} (b:h.load a.block a.off (len*k)=some l):
 l.length=len*k/\ ∃l',VL mu l l'/\ ∀c:World,c.heap=w.heap->(Builtin.firstCells k len (.slice (some e) len cap')).run P c=.ok l'.toArray c:=by
 by_cases s:cap=0
 . have :len=0:=(by omega);subst this;have u:l.length=0:=by
    unfold Hp.load at b;cases i:h.get a.block with
    |none=>simp [i]at b| some x=>
      simp only [i]at b;cases x<;>(try simp only []at b)<;>try (cases b;done)
      rename_i t v el y;rw [d9]at b;by_cases f:a.off+0*k<=v
      . simp only [f,decide_true,cond_true]at b;grind[Tr.slice_spec]
      grind
   have:l=[]:=(by grind);subst this;exact⟨by simp,[],LR.nil,fun c _=>by simp [Builtin.firstCells,loadCells,loadCellsFrom]⟩
 . have g:=pI r s;obtain⟨m,l',n,z⟩:=vK p g b;refine⟨m,l',n,fun c A=>?_⟩;have d: ∀(j:Nat) o,l'[j]? =some o->c.cell? (e.add j)=some o:=(by grind[World.cell?]);have:=run_loadCells_list (P:=P) c e l' d;rw [show l'.length=len*k by rw [<-n.1];exact m]at this;simp [Builtin.firstCells,this]

theorem Bl{mu:Mu}{h:Hp}{w:World}(m:aM mu h w){k n:Nat}{x x':Value}{new:List Value}(d:aC h k x=some (n,new))(o:ao mu x x'):
 new.length=n*k/\(∀c:World,(Builtin.lenOf x').run P c=.ok n c)/\ ∃new',VL mu new new'/\ ∀c:World,c.heap=w.heap->(Builtin.firstCells k n x').run P c=.ok new'.toArray c:=by
 unfold aC at d;cases o<;>(try simp only []at d)<;>try (cases d;done)
 . rename_i s;rw [cC]at d;by_cases p:k=1
   . subst p;simp only [decide_true,cond_true]at d;cases d;refine⟨by simp [aD],fun c=>rfl,(aD s).map fun b=>.int .u8 (.ofNat b.toNat),LR.mapSame _ fun b=>.int _ _,fun c _=>?_⟩;simp only [Builtin.firstCells,Sem.run_pure];congr 1;apply Xv;simp [aD]
   grind
 . cases d;exact⟨by simp,fun c=>rfl,[],LR.nil,fun c _=>rfl⟩
 . rename_i a y f q j g i;cases e:h.load a.block a.off (f*k)with
   |none=>simp [e]at d| some l=>
     simp only [e]at d;cases d;obtain⟨r,t,u,v⟩:=la (P:=P) m g i e;exact⟨r,fun c=>rfl,t,u,v⟩

theorem hrel_move{mu:Mu}{h:Hp}{w w':World}(q:aM mu h w){b c base top base2:Nat}{o:Obj}{x:Blk}(u:mu b=.blk c base top)
 (v: ∀t z el,h.get b≠some (.cells t z el 0)) (G:WSet w w' c o) (M:lR (upd mu b .dead) x base2 top o):
 aM (upd (upd mu b .dead) h.n (.blk c base2 top)) ((h.put b .dead).new x) w'/\Ext mu h w (upd (upd mu b .dead) h.n (.blk c base2 top)) ((h.put b .dead).new x) w':=by
 obtain⟨k,j⟩:=oQ q u v G;have N:=q.lt b (by rw [u];simp);have A:(h.put b .dead).n=h.n:=rfl;have hle:Le (upd mu b .dead) (upd (upd mu b .dead) h.n (.blk c base2 top)):=by intro e i;left;exact aO _ _ (by have:=k.lt e i;omega)
 have n:=(h.put b .dead).get_new x k.sized;have B: ∀e d f,upd mu b .dead e≠ .blk c d f:=by
  intro e d f a;have p:e≠b:=by grind[upd_same]
  rw [aO _ _ p]at a;exact p (q.inj e b c _ _ _ _ a u)
 refine⟨⟨Tr.sized_push x k.sized,?_,?_,?_,?_⟩,?_⟩
 . intro e l d f a;by_cases g:e=h.n
   . subst g;rw [upd_same]at a;cases a;exact⟨x,o,by grind,G.at_,M.mono hle⟩
   . rw [aO _ _ g]at a;obtain⟨y,O,r,m,Q⟩:=k.blk e l d f a;exact⟨y,O,by grind,m,Q.mono hle⟩
 . intro e a;by_cases g:e=h.n
   . grind[upd_same]
   . rw [aO _ _ g]at a;rw [n,A,if_neg g];exact k.dead e a
 . intro H I l C J s K r m;by_cases R:H=h.n
   . grind[upd_same,aO,absurd]
   . rw [aO _ _ R]at r;by_cases S:I=h.n
     . grind[upd_same,absurd]
     . rw [aO _ _ S]at m;exact k.inj H I l _ _ _ _ r m
 . intro e a;show e<h.n+1;by_cases g:e=h.n
   . omega
   . rw [aO _ _ g]at a;have:=k.lt e a;omega
 . refine⟨by show h.n<=h.n+1;omega,?_,?_,j.lo,?_,j.frame,?_,j.wsize,j.os,j.tape,j.output,fun e r m=>by
    have T:e<h.n+1:=m;grind[upd_same]⟩
   . intro e i;rw [aO _ _ (by omega)];exact j.old e i
   . intro e l d f i a;by_cases g:e=h.n
     . grind[upd_same,aO]
     . rw [aO _ _ g]at a;exact absurd (k.lt e (by rw [a];simp)) (by rw [A];omega)
   . intro e i D;rw [n,A,if_neg (by omega)];exact j.same e i D
   . intro e l d f t z el a F;obtain⟨U,W,V⟩:=j.ro e l d f t z el a F;have L:=q.lt e (by rw [a];simp);exact⟨U,by grind,by rw [aO _ _ (by omega)];exact V⟩

theorem Dt{n c:Nat}(h:c<n):Builtin.nextslicecap n c<=3*n:=by grind[Builtin.nextslicecap,Builtin.growBy]
end
end Go.Ab

namespace Go.Ab
theorem zR{w:World}{c:Nat}{cs:Array Value}{el:TypeId}{b:Nat×Nat}(o:Nat)(vs:List Value)(h:w.heap[c]? =some (.cells cs el b)):
 ∃a,WSet w (w.setCells c o vs) c (.cells a el b)/\a.toList=bD cs.toList o vs:=setCells_at c vs o w cs el b h
section
variable{E:Env}{P:Program}(ok:EOk E P)
include ok

omit ok in
theorem y6{t:TypeId}(h:dV E t=some false): ∃d,E.und t=some d/\(match d with| .int _=>true|_=>false)=false:=by unfold dV at h;grind

theorem vt{mu:Mu}{h:Hp}{w:World}(s:aM mu h w){e:TypeId}{i:TypeInfo}{t:List Value}(y:E.zero e=some t)(A:t.length=i.size)
 {len n cap':Nat} {s' x':Value} {old' new':List Value} (B: ∀d:World,d.heap=w.heap->(Builtin.firstCells i.size len s').run P d=.ok old'.toArray d)
 (C: ∀d:World,d.heap=w.heap->(Builtin.firstCells i.size n x').run P d=.ok new'.toArray d) (D:old'.length=len*i.size) (F:new'.length=n*i.size)
 {t2:Tr Value} {s2:Nat} (G:t2.Sized s2) (H:s2=old'.length+new'.length) (u: ∀j v,t2.get j=some v-> ∃v',(old'++new')[j]? =some v'/\ao mu v v'):
 ∃ v' f w',((do
   let a<-choose (.appendCap (len+n) cap' e)
   askRoom (a*i.bytes)
   let l<-Builtin.firstCells i.size len s'
   let new<-Builtin.firstCells i.size n x'
   let rest:=Builtin.zeroCells (<-zeroValue e).cells (a-(len+n))
   pure (Value.slice (some (<-newRow e (l++new++rest))) (len+n) a):Sem Value)).run P w=.ok v' w'/\
   aM f (h.new (.cells t2 s2 e 1)) w'/\Ext mu h w f (h.new (.cells t2 s2 e 1)) w'/\ao f (.slice (some ⟨h.n,0,some i.size⟩) (len+n) (len+n)) v':=by
 obtain⟨z,I,O,Q,R⟩:=nY ok y {w with drawn:=w.drawn+1};obtain⟨g,m⟩: ∃g,g=(Question.appendCap (len+n) cap' e).cut (w.tape w.drawn (.appendCap (len+n) cap' e)):=⟨_,rfl⟩;have J:len+n<=g:=by grind[Question.cut]
 have p:z.cells.size=i.size:=by grind
 obtain⟨rest,b⟩: ∃rest,rest=Builtin.zeroCells z.cells (g-(len+n)):=⟨_,rfl⟩;have q:rest.size=(g-(len+n))*i.size:=by rw [b];simp [Builtin.zeroCells,p]
 obtain⟨c,k⟩: ∃c,c=old'.toArray++new'.toArray++rest:=⟨_,rfl⟩;have K:c.size=g*i.size:=by rw [k];simp only [Array.size_append,List.size_toArray,D,F,q];rw [<-Xt,<-Xt];congr 1;omega
 have r:s2<=c.size:=by grind
 have L:aM mu h {w with drawn:=w.drawn+1}:=tE s rfl;obtain⟨M,N⟩:=nZ (x:=.cells t2 s2 e 1) (base:=0) (top:=c.size) (o:=.cells c e) L (ij {w with drawn:=w.drawn+1} (.cells c e)) ⟨c,e,(0,0),rfl,rfl,by omega,G,by
  grind,by omega⟩
 refine⟨.slice (some ⟨w.heap.size,0,none⟩) (len+n) g,_,_,?_,M,(vI (w':={w with drawn:=w.drawn+1}) s rfl rfl rfl rfl).trans N,?_⟩
 . have hf:(Question.appendCap (len+n) cap' e).forced=false:=rfl;simp only [Sem.run_bind,run_choose,hf,zO,if_false,Result.andThen_ok,run_askRoom,B {w with drawn:=w.drawn+1} rfl,C {w with drawn:=w.drawn+1} rfl,I,<-m,<-b,newRow,run_newObj,Sem.run_pure,<-k]
 simp_all[yH,Xh]

theorem xQ{ts:Array TypeId}{ty t k e:TypeId}{i:TypeInfo}{xs:Array Value}{x':Value}{base:Option Addr}{len cap' n:Nat}{w:World}(b:ts[0]? =some t)(c:ts[1]? =some k)(d:xs[0]? =some (.slice base len cap'))(f:xs[1]? =some x')
 (g:dV E k=some false) (l:E.und t=some (.slice e)) (m:E.ty e=some i) (o:(Builtin.lenOf x').run P w=.ok n w) (p:len+n<=cap'):
 (Builtin.append_ ts ty xs).run P w=((do
  let new<-Builtin.firstCells i.size n x'
  match base with
   |some a=>do storeCells (a.add (len*i.size)) new.toList;pure (Value.slice base (len+n) cap')
   |none=>pure (Value.slice base (len+n) cap'):Sem Value)).run P w:=by
 have h:E.sz e=some i.size:=by unfold Env.sz;rw [m]
 obtain⟨q,j,r⟩:=y6 g;unfold Builtin.append_;simp only [b,c,d,f,Sem.run_bind,bA ok l,Result.andThen_ok,dQ ok h,bA ok j,Sem.run_pure];cases q<;>first
  |(simp at r;done)
  | (simp only [zO,if_false,Sem.run_bind,o,Result.andThen_ok,Xp,if_true,if_pos p]
     cases base<;>rfl)
theorem rq{ts:Array TypeId}{ty t l e:TypeId}{i:TypeInfo}{xs:Array Value}{x':Value}{base:Option Addr}{len cap' n:Nat}{w:World}(b:ts[0]? =some t)(c:ts[1]? =some l)(d:xs[0]? =some (.slice base len cap'))(f:xs[1]? =some x')
 (g:dV E l=some false) (o:E.und t=some (.slice e)) (m:E.ty e=some i) (p:(Builtin.lenOf x').run P w=.ok n w) (x:0<i.bytes) (q: ¬len+n<=cap') (r: ¬Builtin.nextslicecap (len+n) cap'*i.bytes>2 ^48):
 (Builtin.append_ ts ty xs).run P w=((do
  let a<-choose (.appendCap (len+n) cap' e)
  askRoom (a*i.bytes)
  let h<-Builtin.firstCells i.size len (.slice base len cap')
  let new<-Builtin.firstCells i.size n x'
  let rest:=Builtin.zeroCells (<-zeroValue e).cells (a-(len+n))
  pure (Value.slice (some (<-newRow e (h++new++rest))) (len+n) a):Sem Value)).run P w:=by
 have j:E.sz e=some i.size:=by unfold Env.sz;rw [m]
 obtain⟨s,k,u⟩:=y6 g;have v: ¬(((len+n:Nat):Int)>IntKind.i64.max/\(False\/i.bytes=0)):=by grind
 unfold Builtin.append_;simp only [b,c,d,f,Sem.run_bind,bA ok o,Result.andThen_ok,dQ ok j,bA ok k,Sem.run_pure];cases s<;>first
  |(simp at u;done)
  | (simp only [zO,if_false,Sem.run_bind,p,Result.andThen_ok,Xp,if_true,if_neg q,mZ ok m,if_neg v,if_neg r,run_choose,show(Question.appendCap (len+n) cap' e).forced=false from rfl]
     try rfl)
theorem B7 {mu : Mu} {h h' : Hp} {w : World} (B:aM mu h w) {ts:Array TypeId} {ty:TypeId} {xs:Array Value} {s s' x x' v:Value} (G:xs[0]? =some s') (H:xs[1]? =some x')
 (f:du E h ts.toList s x=some (h',v)) (hs:ao mu s s') (hx:ao mu x x'):
 ∃v' I w',(Builtin.append_ ts ty xs).run P w=.ok v' w'/\aM I h' w'/\Ext mu h w I h' w'/\ao I v v':=by
 unfold du at f;cases J:ts.toList with
 |nil=>simp [J]at f| cons t a8 =>
   cases a8 with
   |nil=>simp [J]at f| cons tx bn =>
     have K:ts[0]? =some t:=(by rw [<-zM,J];rfl);have L:ts[1]? =some tx:=(by rw [<-zM,J];rfl);simp only [J]at f;cases m:dV E tx with
     |none=>simp [m]at f| some b =>
       cases b with
       |true=>simp [m]at f| false =>
         simp only [m]at f;unfold jY at f;cases X:E.und t with
         |none=>simp [X]at f| some d=>
           simp only [X]at f;cases d<;>(try simp only []at f)<;>try (cases f;done)
           rename_i e;cases Y:E.ty e with
           |none=>simp [Y]at f| some i=>
             simp only [Y]at f;have ba: ∃a len C,s=.slice a len C:=(by grind);obtain⟨a,len,C,rfl⟩:=ba;simp only []at f;cases T:aC h i.size x with
             |none=>grind| some q=>
               obtain⟨n,D⟩:=q;simp only [T]at f;obtain⟨l1,l2,new',F,l4⟩:=Bl (P:=P) B T hx;unfold fK at f;rw [d9,d9,iN]at f;have aL: ∃r cap',s'=.slice r len cap'/\C<=cap'/\len<=C:=by
                cases hs with
                |nils=>grind|slice h1 O=>exact⟨some _,_,rfl,O.caps,h1⟩
               obtain⟨r,cap',rfl,bp,bq⟩:=aL;by_cases A:len+n<=C
               . simp only [A,decide_true,cond_true]at f;rw [xQ ok K L G H m X Y (l2 w) (by omega)];have hf:=l4 w rfl;cases hs with
                 | nils=>
                   simp only []at f;cases f;have a0:n=0:=(by omega);subst a0;exact⟨.slice none 0 0,mu,w,by simp [hf],B,Ext.refl mu h w B,.nils⟩
                 | slice h1 O=>
                   rename_i a r;simp only []at f;simp only [Sem.run_bind,hf,Result.andThen_ok];cases D with
                   | nil=>
                     simp only []at f;cases f;rw [F.nil_left];exact⟨.slice (some r) (len+n) cap',mu,w,by rfl,B,Ext.refl mu h w B,.slice A O⟩
                   | cons x0 xr=>
                     simp only []at f;have a0:n≠0:=(by grind);cases Z:h.store a.block (a.off+len*i.size) (x0::xr)with
                     |none=>simp [Z]at f| some M=>
                       simp only [Z]at f;cases f;have bb:=oI (pI O (by omega)) (len*i.size);obtain⟨w',g1,g2,g3⟩:=qV (P:=P) (a:=gQ a (len*i.size)) B bb Z F;exact⟨.slice (some r) (len+n) cap',mu,w',by simp [g1],g2,g3,.slice A O⟩
               . simp only [A,decide_false,cond_false]at f;by_cases hb:(len+n)*(i.bytes+1)<=70368744177664/\0<i.bytes
                 . simp only [hb.1, hb.2,decide_true,Xm,cond_true]at f;cases hz:E.zero e with
                   |none=>simp [hz]at f| some zs =>
                     simp only [hz,cC]at f;by_cases Q:zs.length=i.size
                     . simp only [Q, decide_true,cond_true]at f;have u: ∀c,c<len+n-> ¬Builtin.nextslicecap (len+n) c*i.bytes>2 ^48:=(by intro c hc;have:=Dt hc;have h3:Builtin.nextslicecap (len+n) c*i.bytes<=3*(len+n)*i.bytes:=Xq _ this;grind);unfold oL at f;cases hs with
                       | nils=>
                         simp only [cC,decide_true,cond_true]at f;cases f;rw [rq ok K L G H m X Y (l2 w) hb.2 (by omega) (u 0 (by omega))];have:=vt ok B (e:=e) (i:=i) hz Q (len:=0) (n:=n) (cap':=0) (s':=.slice none 0 0) (x':=x') (old':=[]) (new':=new') (fun w2 _=>rfl) l4 (by simp) (by rw [<-F.1];exact l1) (t2:=Tr.ofList D) (s2:=D.length) (Tr.sized_ofList _) (by rw [F.1];simp) (by
                          intro j v l;rw [Tr.get_ofList]at l;exact F.get l)
                         grind
                       | slice h1 O=>
                         rename_i a r;simp only []at f;cases hg:h.get a.block with
                         |none=>simp [hg]at f| some y=>
                           simp only [hg]at f;cases y<;>(try simp only []at f)<;>try (cases f;done)
                           rename_i tr sz el md;cases ad:jJ tr sz a.off (len*i.size) D with
                           |none=>simp [ad]at f| some p =>
                             obtain⟨t2,s2⟩:=p;simp only [ad]at f;have bc: ∃c g N cs R fz,mu a.block=.blk c g N/\w.heap[c]? =some (.cells cs R fz)/\CRel mu tr sz md g N cs fz:=by
                              unfold d7 at O;cases hm:mu a.block with
                              |none=>grind|dead=>have:=B.dead _ hm;grind| blk c g N=>
                                obtain⟨y,o,k1,k2,k3⟩:=B.blk _ c g N hm;rw [hg]at k1;cases k1;obtain⟨cs,R,fz,rfl,k4⟩:=k3;grind
                             obtain⟨c,g,N,cs,R,fz,hm,hw,cr⟩:=bc;obtain⟨q1,q2,q3,q4,q5⟩:=Ci cr.sized ad
                             -- the a1 cells
                             obtain⟨a1,a2⟩:=Tr.slice_mk (t:=tr) (i:=a.off) (n:=len*i.size) (fun k hk=>by
                              obtain⟨v,l⟩:=Tr.get_some cr.sized (show a.off+k<sz by omega);rw [l];rfl)
                             have af:h.load a.block a.off (len*i.size)=some a1:=(by simp_all[Hp.load,d9,decide_true,cond_true]);obtain⟨o1,old',o2,o3⟩:=la (P:=P) B h1 O af;have U: ∀j v,t2.get j=some v-> ∃v',(old'++new')[j]? =some v'/\ao mu v v':=by
                              intro j v l;by_cases S:j<len*i.size
                              . rw [q4 j S,(Tr.slice_spec a2).2 j S]at l;obtain⟨v',V,W⟩:=LR.get o2 l;grind
                              . rw [q5 j (by omega)]at l;obtain⟨v',V,W⟩:=LR.get F l;exact⟨v',by rw [Xd (by rw [<-o2.1,o1];omega),<-o2.1,o1];exact V,W⟩
                             have a3:s2=old'.length+new'.length:=(by rw [<-o2.1,<-F.1,o1];exact q2);cases ai:a.spot with
                             | none=>
                               simp only [ai]at f;cases f;have br:cap'=C:=(by grind[d7]);rw [rq ok K L G H m X Y (l2 w) hb.2 (by omega) (u cap' (by omega))];exact vt ok B hz Q o3 l4 (by rw [<-o2.1];exact o1) (by rw [<-F.1];exact l1) q3 a3 U
                             | some k' =>
                               simp only [ai,cC]at f;by_cases hk:k'=i.size/\md≠0/\D.all iQ=true
                               . obtain⟨rfl,ak,bd⟩:=hk;simp only [ak,bd,decide_true,decide_false,Xp,Xm,cond_true]at f;cases f;have a4: ∀t sz el,h.get a.block≠some (.cells t sz el 0):=(by grind);by_cases z:len+n<=cap'
                                 . -- it fits all the same
                                   rw [xQ ok K L G H m X Y (l2 w) z];simp only [Sem.run_bind,l4 w rfl,Result.andThen_ok];have M:=O;unfold d7 at M;rw [hm]at M;simp only [ai]at M;obtain⟨s1,be,s3,s4,s5⟩:=M;have bs:(len+n)*i.size<=cap'*i.size:=Xq _ z;have bi:len*i.size+n*i.size=(len+n)*i.size:=(Xt _ _ _).symm;have bt:new'.length=n*i.size:=(by rw [<-F.1];exact l1);have bk:=cr.whole;have a5: ∀v∈new',v.oneCell'=true:=(by intro v l;obtain⟨j,S⟩:=List.mem_iff_getElem?.1 l;have bf:j<D.length:=(by grind);have:=F.2 j _ v (Xf bf) S;refine this.flat ?_;grind);have a6:=run_storeCells_cells (P:=P) c (r.off+len*i.size) new' 0 w (fun j S=>by
                                    grind[World.cell?]) (fun j S=>by
                                    simp only [World.frozen?,hw];have:=cr.free ak (r.off+len*i.size+0+j) (by omega);grind) a5
                                   rw [Nat.add_zero]at a6;have bl:r.add (len*i.size)=⟨c,r.off+len*i.size,none⟩:=(by rw [ng _ _ s3,be]);obtain⟨a7,ws,e2⟩:=zR (r.off+len*i.size) new' hw;have bh:a7.size=cs.size:=(by grind[rh]);have hle:Le mu (upd mu a.block .dead):=(by intro b' _;grind[upd_same,aO]);obtain⟨g1,g2⟩:=hrel_move B (x:=.cells t2 s2 e 1) (base2:=r.off) hm a4 ws ⟨a7,R,fz,rfl,by omega,by omega,q3,by
                                    intro j v l;rw [<-zM,e2,A4 _ _ _ _ (show r.off+len*i.size+new'.length<=cs.toList.length by grind)];by_cases S:j<len*i.size
                                    . rw [if_neg (by omega)];rw [q4 j S]at l;obtain⟨v',V,W⟩:=cr.get _ _ l;have bm:r.off=g+a.off:=(by grind);exact⟨v',by grind,W.mono hle⟩
                                    . rw [q5 j (by omega)]at l;obtain⟨v',V,W⟩:=LR.get F l;have bu:j-len*i.size<new'.length:=(List.getElem?_eq_some_iff.1 V).1;rw [if_pos (by omega),show r.off+j-(r.off+len*i.size)=j-len*i.size by omega];exact⟨v',V,W.mono hle⟩,fun _=>by
                                    intro j S;exact cr.free ak j (by omega)⟩
                                   refine⟨.slice (some r) (len+n) cap',_,_,?_,g1,g2,.slice (Xh _) ?_⟩
                                   . simp_all
                                   grind[d7,upd_same]
                                 . rw [rq ok K L G H m X Y (l2 w) hb.2 z (u cap' (by omega))];have hle:Le mu (upd mu a.block .dead):=(by intro b' _;grind[upd_same,aO]);obtain⟨k1,k2⟩:=oQ B hm a4 (w':=w) ⟨rfl,hw,fun _ _=>rfl,rfl,rfl,rfl⟩;obtain⟨v',I,w',g1,g2,g3,g4⟩:=vt ok k1 hz Q o3 l4 (by rw [<-o2.1];exact o1) (by rw [<-F.1];exact l1) q3 a3 (fun j v l=>by
                                    obtain⟨v',V,W⟩:=U j v l;exact⟨v',V,W.mono hle⟩)
                                   exact⟨v',I,w',g1,g2,k2.trans g3,g4⟩
                               grind
                     grind
                 grind
end
end Go.Ab

namespace Go.Ab
section
variable{E:Env}{P:Program}(ok:EOk E P)
include ok

omit ok in
theorem mq(a b:Nat):dk a b=Xg a b:=by unfold dk;rw [d9];grind
theorem copyV_run {mu:Mu} {h B:Hp} {w:World} (j:aM mu h w) {ts:Array TypeId} {ty:TypeId} {xs:Array Value} {s s' x x' v:Value} (C:xs[0]? =some s') (D:xs[1]? =some x')
 (c:copyV E h ts.toList s x=some (B,v)) (F:ao mu s s') (X:ao mu x x'):
 ∃v' o w',(Builtin.copy_ ts ty xs).run P w=.ok v' w'/\aM o B w'/\Ext mu h w o B w'/\ao o v v':=by
 unfold copyV at c;cases p:ts.toList with
 |nil=>simp [p]at c| cons t Y=>
   have G:ts[0]? =some t:=(by rw [<-zM,p];rfl);simp only [p]at c;cases H:E.und t with
   |none=>simp [H]at c| some d =>
     simp only [H]at c;cases d<;>(try simp only []at c)<;>try (cases c;done)
     rename_i e;cases q:E.sz e with
     |none=>simp [q]at c| some k=>
       simp only [q]at c;have I: ∃a len g,s=.slice a len g:=(by grind);obtain⟨a,len,g,rfl⟩:=I;have A: ∃r n,s'=.slice r len n/\len<=g:=by
        cases F with
        |nils=>grind|slice Z T=>grind
       obtain⟨r,n,rfl,ad⟩:=A;unfold Builtin.copy_;simp only [G,C,D,Sem.run_bind,bA ok H,Result.andThen_ok];simp only []at c;cases X<;>(try simp only []at c)<;>try (cases c;done)
       . rename_i s;rw [cC]at c;by_cases J:k=1
         . subst J;simp only [decide_true,cond_true]at c;have z:(Builtin.firstCells 1 (Xg s.size len) (.string s)).run P w=.ok ((((aD s).map fun b=>Value.int .u8 (.ofNat b.toNat)).take (dk s.size len)).toArray) w:=(by simp only [Builtin.firstCells,Sem.run_pure];congr 1;apply Xv;rw [mq];simp [aD,List.map_take]);have U:VL mu (((aD s).map fun b=>Value.int .u8 (.ofNat b.toNat)).take (dk s.size len)) (((aD s).map fun b=>Value.int .u8 (.ofNat b.toNat)).take (dk s.size len)):=(by rw [<-List.map_take];exact LR.mapSame _ fun b=>.int _ _);generalize((aD s).map fun b=>Value.int .u8 (.ofNat b.toNat)).take (dk s.size len)=l at c z U;cases l with
           | nil=>
             simp only []at c;cases c;refine⟨goInt (Xg s.size len:Nat),mu,w,?_,j,Ext.refl mu h w j,by rw [mq];exact .int _ _⟩;cases r<;>simp [Builtin.lenOf,dQ ok q,z,storeCells]
           | cons y K=>
             simp only []at c;cases a with
             |none=>simp at c| some a=>
               cases F with
               | slice q1 L=>
                 rename_i r;simp only []at c;cases f:h.store a.block a.off (y::K)with
                 |none=>simp [f]at c| some M=>
                   simp only [f]at c;cases c;have i:g≠0:=(by intro e0;simp_all[Xg,Nat.min_zero,Builtin.firstCells]);obtain⟨w',N,O,Q⟩:=qV (P:=P) j (pI L i) f U;refine⟨goInt (Xg s.size len:Nat),mu,w',?_,O,Q,by rw [mq];exact .int _ _⟩;simp [Builtin.lenOf,dQ ok q,z,N]
         grind
       . cases c;refine⟨goInt 0,mu,w,?_,j,Ext.refl mu h w j,.int _ _⟩;have:Xg 0 len=0:=Nat.zero_min len;cases r<;>simp [Builtin.lenOf,dQ ok q,Builtin.firstCells,this,storeCells]
       . rename_i b b' m cp R Z T;cases u:h.load b.block b.off (dk m len*k)with
         |none=>simp [u]at c| some l=>
           simp only [u]at c;have S:dk m len<=cp:=(by rw [mq];grind);obtain⟨o1,V,W,o3⟩:=la (P:=P) j (len:=dk m len) S T u;have z:(Builtin.firstCells k (Xg m len) (.slice (some b') m R)).run P w=.ok V.toArray w:=(by rw [<-mq];exact o3 w rfl);cases l with
           | nil=>
             simp only []at c;cases c;have:V=[]:=W.nil_left;subst this;refine⟨goInt (Xg m len:Nat),mu,w,?_,j,Ext.refl mu h w j,by rw [mq];exact .int _ _⟩;cases r<;>simp [Builtin.lenOf,dQ ok q,z,storeCells]
           | cons y K=>
             simp only []at c;cases a with
             |none=>simp at c| some a=>
               cases F with
               | slice q1 L=>
                 rename_i r;simp only []at c;cases f:h.store a.block a.off (y::K)with
                 |none=>simp [f]at c| some M=>
                   simp only [f]at c;cases c;have i:g≠0:=(by intro e0;simp_all[mq,Xg,Nat.min_zero]);obtain⟨w',N,O,Q⟩:=qV (P:=P) j (pI L i) f W;refine⟨goInt (Xg m len:Nat),mu,w',?_,O,Q,by rw [mq];exact .int _ _⟩;simp [Builtin.lenOf,dQ ok q,z,N]

omit ok in
theorem B6{mu:Mu}{l l':List Value}{r:List UInt8}(h:bytesOf l=some r)(a:VL mu l l')(s:ByteArray)(w:World)(m:String):
 (forIn l' s (fun c s=>match c with| .int .u8 n=>pure (ForInStep.yield (s.push (UInt8.ofNat n.toNat)))|_=>do stuck m;pure (ForInStep.yield s)):Sem ByteArray).run P w=.ok (gk (aD s++r)) w:=by
 induction l generalizing l' r s with
 | nil=>rw [a.nil_left];simp_all[bytesOf,gk,aD]| cons x l f=>
   obtain⟨g,q,rfl,b,i⟩:=a.cons_left;have: ∃n:Nat,x=.int .u8 (n:Int):=(by unfold bytesOf at h;grind);obtain⟨n,rfl⟩:=this;cases b;have d:(match bytesOf l with|none=>none|some r=>some (UInt8.ofNat n::r))=some r:=h;cases e:bytesOf l with
   |none=>simp [e]at d| some j=>simp_all[List.forIn_cons,Sem.run_bind,Sem.run_pure,Result.andThen_ok,Int.toNat_natCast,gk,aD]

omit ok in
theorem Dm(w:World)(cs:Array Value)(e:TypeId):
 WNew w ({w with heap:=w.heap.push (.cells cs e)}.freeze {block:=w.heap.size,off:=cs.size} 1) (.cells cs e (cs.size,cs.size+1)):=by
 refine⟨?_,rfl,rfl,rfl⟩;simp only [World.freeze,if_neg (show¬(1:Nat)=0 by omega)];grind

theorem convV_run {mu:Mu} {h I:Hp} {w:World} (C:aM mu h w) {i c:TypeId} {x x' v:Value} (t:bV E h i c x=some (I,v)) (N:ao mu x x'):
 ∃v' y w',(convert i c x').run P w=.ok v' w'/\aM y I w'/\Ext mu h w y I w'/\ao y v v':=by
 unfold bV at t;cases g:aA E i c with
 |none=>simp [g]at t| some q =>
   obtain⟨n,e⟩:=q;unfold aA at g;cases G:E.und i with
   |none=>simp [G]at g| some d =>
     simp only [G]at g;have z:(∀e,d≠ .slice e)->n=0-> ∃v' y w',(convert i c x').run P w=.ok v' w'/\aM y I w'/\Ext mu h w y I w'/\ao y v v':=by
      intro O hn;subst hn;have Q:aA E i c=some (0,e):=(by grind[aA]);simp only [Q]at t;cases R:cj E c x with
      |none=>simp [R]at t| some u=>
        simp only [R]at t;cases t;obtain⟨g1,g2⟩:=convP_run ok G O R N w;grind[Ext.refl]
     cases d<;>(try simp only []at g)<;>(try (cases g;exact z (by intro e S;cases S) rfl))
     case string=>
      cases o:E.und c with
      |none=>simp [o]at g| some T=>
        simp only [o]at g;cases T<;>(try simp only []at g)<;>(try (cases g;exact z (by intro e S;cases S) rfl));rename_i J;cases p:E.und J with
        |none=>simp [p]at g| some U=>
          simp only [p]at g;have D:U=.int .u8/\n=2/\e=J:=(by grind);obtain⟨rfl,rfl,rfl⟩:=D;have F:aA E i c=some (2,e):=(by grind[aA]);simp only [F]at t;cases N<;>(try simp only []at t)<;>try (cases t;done)
          rename_i s;rw [d9]at t;by_cases V:s.size<=1099511627776
          . simp only [V,decide_true,cond_true,bytesV]at t;cases t;obtain⟨H,W⟩: ∃H,H=(Question.appendCap s.size 0 e).cut (w.tape w.drawn (.appendCap s.size 0 e)):=⟨_,rfl⟩;have ai:s.size<=H:=(by grind[Question.cut]);obtain⟨A,K⟩: ∃A:Array Value,A=(s.data.map fun b=>Value.int .u8 b.toNat)++Array.replicate (H-s.size) (.int .u8 0):=⟨_,rfl⟩;have X:A.size=H:=(by simp_all);have O:aM mu h {w with drawn:=w.drawn+1}:=tE C rfl;have Y:=Dm {w with drawn:=w.drawn+1} A e;have ad:(aD s).length=s.size:=rfl;obtain⟨g1,g2⟩:=nZ (x:=.cells (Tr.ofList ((aD s).map fun b=>.int .u8 (.ofNat b.toNat))) s.size e 1) (base:=0) (top:=A.size) O Y ⟨A,e,(A.size,A.size+1),rfl,rfl,by omega,by
             grind[Tr.sized_ofList,aD,List.length_map],by
             intro j v M;rw [Tr.get_ofList]at M;have hj:j<s.size:=(by grind);refine⟨v,?_,?_⟩
             . rw [Xr,<-zM,K];simp only [Xk,Xb];rw [Xe (by grind)];exact M
             . simp only [List.getElem?_map,Option.map_eq_some_iff]at M;obtain⟨b,_,rfl⟩:=M;exact .int _ _,by omega⟩
            refine⟨.slice (some ⟨w.heap.size,0,none⟩) s.size H,_,_,?_,g1,(vI (w':={w with drawn:=w.drawn+1}) C rfl rfl rfl rfl).trans g2,?_⟩
            . have hf:(Question.appendCap s.size 0 e).forced=false:=rfl;have B:World.shape? {w with drawn:=w.drawn+1,heap:=w.heap.push (.cells A e)} w.heap.size=some (e,A.size):=(by simp [World.shape?]);simp only [convert,Sem.run_bind,bA ok G,bA ok o,bA ok p,Result.andThen_ok,Conv.stringToBytes,run_choose,hf,zO,if_false,<-W,newRow,run_newObj,Sem.run_pure,<-K,markStringish,run_shape,B,run_freeze]
            simp_all[yH,Xh]
          grind
     case slice J=>
      cases o:E.und c with
      |none=>simp [o]at g| some T =>
        simp only [o]at g;cases T<;>(try simp only []at g)<;>try (cases g;done)
        cases p:E.und J with
        |none=>simp [p]at g| some U =>
          simp only [p]at g;have D:U=.int .u8/\n=1/\e=J:=(by grind);obtain⟨rfl,rfl,rfl⟩:=D;have F:aA E i c=some (1,e):=(by grind[aA]);simp only [F]at t;cases f:strOf h x with
          |none=>simp [f]at t| some u=>
            simp only [f]at t;cases t;unfold strOf at f;cases N<;>(try simp only []at f)<;>try (cases f;done)
            . cases f;refine⟨.string .empty,mu,w,?_,C,Ext.refl mu h w C,.string _⟩;simp [convert,bA ok G,bA ok o,bA ok p,Conv.bytesToString]
            . rename_i a a' len ak af h1 h2;cases L:h.load a.block a.off len with
              |none=>grind| some l=>
                simp only [L]at f;cases Z:bytesOf l with
                |none=>simp [Z]at f| some r=>
                  simp only [Z]at f;cases f;obtain⟨o1,l',o2,o3⟩:=la (P:=P) C (len:=len) (k:=1) h1 h2 (by rw [Xs];exact L);have o4:=o3 w rfl;simp only [Builtin.firstCells,Xs]at o4;have hf:=fun m=>B6 (P:=P) Z o2 ByteArray.empty w m;refine⟨.string (gk r),mu,w,?_,C,Ext.refl mu h w C,.string _⟩;simp only [convert,Sem.run_bind,bA ok G,bA ok o,bA ok p,Result.andThen_ok,Conv.bytesToString,o4];rw [List.forIn_toArray];refine(congrArg (fun q=>Result.andThen q (fun a w'=>Sem.run P (pure (Value.string a)) w')) (hf _)).trans ?_;simp [aD]

omit ok in
theorem Cz{mu:Mu}{f e:Value}{args:List Value}{args':Array Value}{i:dw}{h:Hp}{w:World}(a:target f args=some i)(hf:ao mu f e)(j:VL mu args args'.toList):
 Res P mu h w (do let d<-Deferred.ofValue e args';invoke d.target d.args) h i:=by
 unfold target at a;cases hf<;>(try simp only []at a)<;>try (cases a;done)
 . rename_i g x k y l m n o p;cases a;refine⟨rfl,k++args'++l,by rfl,?_⟩;simp only [Xk];exact LR.append (LR.append ⟨m,n⟩ j) ⟨o,p⟩
 . rename_i b c q;simp at a;subst a;exact⟨rfl,c,args',by simp [Deferred.ofValue,invoke],q,j⟩

theorem aop_run {mu:Mu} {h U:Hp} {w:World} (G:aM mu h w) {ρ B:Operand->Value} (u: ∀x,ao mu (ρ x) (B x)) {o:Oper} {V:dw} (i:aop E ρ h o.op=some (V,U)):
 Res P mu h w (execOp B o) U V:=by
 have ad: ∀l:List Operand,VL mu (l.map ρ) (l.map B):=fun l=>LR.mapSame l u;have S: ∀{v:Value},pop E ρ o.op=some v->Res P mu h w (execOp B o) h (.val v):=by intro v C;obtain⟨O,F,D⟩:=pop_run ok u C w;exact⟨O,mu,w,F,G,Ext.refl mu h w G,D⟩
 have wr: ∀{r:Option Value},cG h r=some (V,U)-> ∃v,r=some v/\V=.val v/\U=h:=by
  intro r N;cases r with
  |none=>cases N
  |some v=>cases N;grind
 have Z: ∀{r:Option (Hp×Value)},cU r=some (V,U)-> ∃v,r=some (U,v)/\V=.val v:=by
  intro r N;cases r with
  |none=>cases N
  |some q=>obtain⟨a,b⟩:=q;cases N;grind
 have wu: ∀{r:Option Hp},fj r=some (V,U)->r=some U/\V=.skip:=by
  intro r N;cases r with
  |none=>cases N
  |some q=>cases N;grind
 obtain⟨a4,op,Q,pos,aL,guard⟩:=o;simp only []at i S;unfold execOp;simp only [];cases op
 case load t a=>
  obtain⟨v,C,rfl,rfl⟩:=wr i;obtain⟨O,F,D⟩:=yD ok G C (u a);exact⟨O,mu,w,by simp [F],G,Ext.refl mu _ w G,D⟩
 case store t a x=>
  obtain⟨C,rfl⟩:=wu i;obtain⟨H,F,D,I⟩:=C8 ok G C (u a) (u x);exact⟨mu,H,by simp [F],D,I⟩
 case convert s d x=>
  obtain⟨v,C,rfl⟩:=Z i;obtain⟨O,J,H,F,D,I,g4⟩:=convV_run ok G C (u x);exact⟨O,J,H,by simp [F],D,I,g4⟩
 case alloc e=>
  simp only [aop]at i;cases hz:E.zero e with
  |none=>simp [hz]at i| some z=>
    simp only [hz]at i;obtain⟨v,C,rfl⟩:=Z i;cases C;obtain⟨zv,z1,z2,z3,z4⟩:=nY ok hz w;have N:VL mu z zv.cells.toList:=(by grind[LR.refl,ao.const,Xa]);obtain⟨F,D⟩:=qc G (el:=e) N (ij w (.cells zv.cells e)) (Tr.sized_ofList z) (Tr.get_ofList z);exact⟨.pointer (some ⟨w.heap.size,0,none⟩),_,_,by simp [Instr.alloc,z1,newVar,newRow],F,D,.ptr (xY mu h.n w.heap.size 0 _)⟩
 case box e x=>
  simp only [aop]at i;have a0: ∀y,ρ x≠ .chan y:=by grind
  have a1:cU (some (sd h (ae (ρ x)) e))=some (V,U):=by grind
  obtain⟨v,C,rfl⟩:=Z a1;cases C;have N:=(u x).cells a0;obtain⟨F,D⟩:=qc G (el:=e) N (ij w (.cells (B x).cells e)) (Tr.sized_ofList _) (Tr.get_ofList _);exact⟨.pointer (some ⟨w.heap.size,0,none⟩),_,_,by rfl,F,D,.ptr (xY mu h.n w.heap.size 0 _)⟩
 case buildSlice t n K=>
  obtain⟨v,C,rfl⟩:=Z i;have hq:PL mu (K.toList.map fun p=>(p.1,ρ p.2)) (K.toList.map fun p=>(p.1,B p.2)):=LR.mapSame _ fun p=>⟨rfl,u p.2⟩;obtain⟨O,J,H,F,D,I,g4⟩:=xu ok G C hq;have e:(K.map fun(x:Nat×Operand)=>(x.1,B x.2))=(K.toList.map fun p=>(p.1,B p.2)).toArray:=by apply Xv;simp
  refine⟨O,J,H,?_,D,I,g4⟩;simp_all
 case makeSlice t l c=>
  obtain⟨v,C,rfl⟩:=Z i;obtain⟨O,J,H,F,D,I,g4⟩:=yv ok G C (u l) (u c);exact⟨O,J,H,by simp [F],D,I,g4⟩
 case makeMap t r=>
  cases r with
  |some x=>simp only [aop]at i;obtain⟨v,C,rfl,rfl⟩:=wr i;cases C
  | none=>
    cases i;obtain⟨F,D⟩:=nZ (x:=.map [] 0) (base:=0) (top:=0) G (ij w (.map #[] 0)) ⟨rfl,#[],rfl,LR.nil⟩;exact⟨.map (some w.heap.size),_,_,by rfl,F,D,.map (by unfold dI;rw [upd_same];omega)⟩
 case lookup t m k q=>
  obtain⟨v,C,rfl,rfl⟩:=wr i;obtain⟨O,F,D⟩:=Cb ok G C (u m) (u k);exact⟨O,mu,w,by simp [F],G,Ext.refl mu _ w G,D⟩
 case mapUpdate t m k x=>
  obtain⟨C,rfl⟩:=wu i;obtain⟨H,F,D,I⟩:=xK ok G C (u m) (u k) (u x);exact⟨mu,H,by simp [F],D,I⟩
 case insert t m k x=>
  obtain⟨C,rfl⟩:=wu i;obtain⟨H,F,D,I⟩:=xK ok G C (u m) (u k) (u x);exact⟨mu,H,by simp [F],D,I⟩
 case mapEntry t m k=>
  obtain⟨v,C,rfl⟩:=Z i;obtain⟨O,H,F,D,I,g4⟩:=Dv ok G C (u m) (u k);exact⟨O,mu,H,by simp [F],D,I,g4⟩
 case entryStore t m s x=>
  obtain⟨C,rfl⟩:=wu i;obtain⟨H,F,D,I⟩:=Ao (P:=P) (t:=t) G C (u m) (u s) (u x);exact⟨mu,H,by simp [F],D,I⟩
 case panic x=>
  simp only [aop]at i;have W:=u x;revert i;cases N:ρ x<;>intro i<;>(try simp only []at i)<;>try (cases i;done)
  cases i;rw [N]at W;cases R:B x<;>rw [R]at W<;>cases W;rename_i C;exact⟨rfl,_,by simp only [R];rfl,.iface C⟩
 case defer c=>
  simp only [aop]at i;obtain⟨L,A,j⟩:=c;cases L<;>(try simp only []at i)<;>try (cases i;done)
  rename_i f;have W:=u f;revert i;cases N:ρ f<;>intro i<;>(try simp only []at i)<;>try (cases i;done)
  rename_i fn a b;cases fn<;>(try simp only []at i)<;>try (cases i;done)
  rename_i g;cases i;rw [N]at W;cases R:B f<;>rw [R]at W<;>cases W;rename_i a' b' h1 h2 h3 h4;refine⟨rfl,{target:=.fn (.func g) b',args:=a'++A.map B},?_,?_⟩
  . simp only [resolve,R,Deferred.ofValue];simp
  . refine⟨b',rfl,⟨h3,h4⟩,?_⟩;simp only [Xk,Xb];exact LR.append ⟨h1,h2⟩ (ad _)
 case call c=>
  obtain⟨L,A,j⟩:=c;simp only [aop]at i;cases L<;>(try simp only []at i)<;>try (cases i;done)
  case value f=>
   cases X:target (ρ f) (A.toList.map ρ)with
   |none=>simp [X]at i| some x=>
     simp only [X]at i;cases i;have:=Cz (P:=P) (h:=h) (w:=w) (args':=A.map B) X (u f) (by simp_all);exact this
  case builtin b =>
   have T: ∀{x:Operand} {l:List Operand},A.toList=x::l->(A.map B)[0]? =some (B x):=(by intro x l e;rw [<-zM,Xb,e];rfl);have Y: ∀{x y:Operand} {l:List Operand},A.toList=x::y::l->(A.map B)[1]? =some (B y):=(by intro x y l e;rw [<-zM,Xb,e];rfl);have af: ∀{v:Value},pop E ρ (.call ⟨.builtin b,A,j⟩)=some v->V=.val v->U=h->Res P mu h w (do let d<-resolve B ⟨.builtin b,A,j⟩ Q;invoke d.target d.args) U V:=(by intro v C e1 e2;subst e1;subst e2;exact S C);cases b
   case append=>
    simp only []at i;cases M:A.toList with
    |nil=>simp [M]at i| cons x l=>
      cases l with
      |nil=>simp [M]at i| cons y l=>
        simp only [M]at i;obtain⟨v,C,rfl⟩:=Z i;obtain⟨O,J,H,F,D,I,g4⟩:=B7 ok G (ty:=Q) (T M) (Y M) C (u x) (u y);exact⟨O,J,H,by simp [resolve,invoke,builtin,F],D,I,g4⟩
   case copy=>
    simp only []at i;cases M:A.toList with
    |nil=>simp [M]at i| cons x l=>
      cases l with
      |nil=>simp [M]at i| cons y l=>
        simp only [M]at i;obtain⟨v,C,rfl⟩:=Z i;obtain⟨O,J,H,F,D,I,g4⟩:=copyV_run ok G (ty:=Q) (T M) (Y M) C (u x) (u y);exact⟨O,J,H,by simp [resolve,invoke,builtin,F],D,I,g4⟩
   case delete=>
    simp only []at i;cases X:j.toList with
    |nil=>simp [X]at i| cons t ts=>
      cases M:A.toList with
      |nil=>grind| cons x l=>
        cases l with
        |nil=>grind| cons y l=>
          simp only [X,M]at i;cases hd:mR E h t (ρ x) (ρ y)with
          |none=>simp [hd]at i| some h2=>
            simp only [hd]at i;cases i;obtain⟨H,F,D,I⟩:=C9 ok G (ty:=Q) (ts:=j) (by rw [<-zM,X];rfl) (T M) (Y M) hd (u x) (u y);exact⟨.tuple #[],mu,H,by simp [resolve,invoke,builtin,F],D,I,.tuple rfl (by grind)⟩
   case recover=>
    simp only []at i;cases i;exact⟨rfl,by rfl⟩
   case len =>
    simp only []at i;cases hp:pop E ρ (.call ⟨.builtin .len,A,j⟩)with
    |some v=>grind| none=>
      simp only [hp]at i;cases M:A.toList with
      |nil=>simp [M]at i| cons x l =>
        simp only [M]at i;have W:=u x;revert i;cases N:ρ x<;>intro i<;>(try simp only []at i)<;>try (cases i;done)
        rename_i r;cases r with
        |none=>simp at i| some r =>
          simp only []at i;rw [N]at W;cases hg:h.get r with
          |none=>simp [hg]at i| some y=>
            simp only [hg]at i;cases y<;>(try simp only []at i)<;>try (cases i;done)
            rename_i es a2;cases X:j.toList with
            |nil=>simp [X]at i| cons t ts=>
              simp only [X]at i;cases hu:E.und t with
              |none=>simp [hu]at i| some d=>
                simp only [hu]at i;cases d<;>(try simp only []at i)<;>try (cases i;done)
                cases i;cases R:B x<;>rw [R]at W<;>cases W;rename_i c a3;obtain⟨top,ai,k1,k2,k3⟩:=wQ G a3 hg;have e0:j[0]? =some t:=(by rw [<-zM,X];rfl);have e1:=T M;rw [R]at e1;have ak:es.length=ai.size:=k3.1;refine⟨.int .i64 ai.size,mu,w,?_,G,Ext.refl mu _ w G,by rw [ak];exact .int _ _⟩;have:(Builtin.len_ j Q (A.map B)).run P w=.ok (.int .i64 ai.size) w:=(by unfold Builtin.len_;simp only [e0,e1,Sem.run_bind,bA ok hu,Result.andThen_ok,jE k2];rfl);simp [resolve,invoke,builtin,this]
   all_goals (simp only []at i;obtain⟨v,C,e1,e2⟩:=wr i;exact af C e1 e2)
 all_goals (simp only [aop]at i;obtain⟨v,C,rfl,rfl⟩:=wr i;exact S C)
end
end Go.Ab

namespace Go.Ab
noncomputable section

structure Loc where
 regs:Tr Value
 dfs:List Deferred
 rc:Option (Value×Bool)

def Loc.ev(l:Loc):Operand->Value
 | .tmp t=>match l.regs.get t with
   |some v=>v|none=>.tuple #[]
 | .const v=>bif cR v then v else poison
 | .global g=>bif Xo g 16 then .pointer (some ⟨g,0,none⟩)else poison
 | .func f=>.func (.func f) #[] #[]
def Loc.put(l:Loc)(d:Option Tmp)(v:Value):Loc:=match d with
 |none=>l|some t=>{l with regs:=l.regs.set t v}

inductive Ex where
 |normal
 |exit (id:Nat)
 |ret
 |pan (v:Value)

inductive Out where
 |ret (v:Value)
 |pan (v:Value)

structure Cx where
 fn:FuncId
 nr:Nat
 round:Option Nat

structure Rec where
 call:FuncId->List Value->Option (Value×Bool)->Hp->Option (Out×Option (Value×Bool)×Hp)
 code:Cx->Code->Loc->Hp->Option (Ex×Loc×Hp)

def ph(a:Tr Value):List Tmp->List Value->Option (Tr Value)
 | [],[]=>some a|t::b,v::c=>ph (a.set t v) b c|_,_=>none
def jt (E:Env) (R:Rec) (b:Nat) (args:List Value) (h:Hp):Option (Out×Hp):=match h.get b with
 | some (.loop r)=>bif (E.fn r.fn).isSome then match r.st with
   | 0 =>match ph r.regs r.params.toList args with
     |none=>none| some c=>match R.code ⟨r.fn,r.nr,some b⟩ r.assign ⟨c,[],none⟩ h with
       | some (.normal,l,e)=>match e.get b with
         | some (.loop f)=>match f.st with
           | 0 =>match R.code ⟨r.fn,r.nr,some b⟩ r.body l (e.put b (.loop {f with st:=1}))with
             | some (.normal,_,a)=>match a.get b with
               |some (.loop d)=>some (.ret (.bool true),a.put b (.loop {d with st:=0,pending:=none}))
               |_=>none
             | some (.exit id,_,a)=>match a.get b with
               |some (.loop d)=>some (.ret (.bool false),a.put b (.loop {d with st:=2,pending:=some (.exit id)}))
               |_=>none
             | some (.ret,_,a)=>match a.get b with
               |some (.loop d)=>some (.ret (.bool false),a.put b (.loop {d with st:=2,pending:=some .ret}))
               |_=>none
             | some (.pan v,g,a)=>match g.dfs with
               | []=>some (.pan v,a)|_=>none
             |none=>none
           |_=>none
         |_=>none
       |_=>none
   |_=>none
   else none
 |_=>none

def ct (ops:List Oper) (c:Tr Value) (o:Oper):Option Bool:=match o.guard with
 |none=>some true| some (j,a)=>match ops[j]? with
   |none=>some false| some e=>match e.dst with
     |none=>some false| some d=>match c.get d with
       |some (.bool b)=>some (bif b then a else !a)
       |some (.tuple _)=>some false|_=>none

def c6(E:Env)(R:Rec):Option (dw×Hp)->Option (Out×Hp)
 |some (.val v,c)=>some (.ret v,c)|some (.skip,c)=>some (.ret (.tuple #[]),c)| some (.call f a,c)=>match R.call f a none c with
   |some (x,_,d)=>some (x,d)|none=>none
 |some (.yield b a,c)=>jt E R b a c|some (.panic v,c)=>some (.pan v,c)|some (.recov,_)=>none|some (.defer _,_)=>none|none=>none
def oD(o:Oper)(l:Loc):Option (Out×Hp)->Option (Ex×Loc×Hp)
 |some (.ret v,a)=>some (.normal,l.put o.dst v,a)|some (.pan v,a)=>some (.pan v,l,a)|none=>none
def dW(E:Env)(R:Rec)(cx:Cx)(o:Oper)(l:Loc)(h:Hp):Option (Ex×Loc×Hp):=match aop E l.ev h o.op with
 | some (.recov,a)=>match cx.round with
   |some _=>none| none=>match l.rc with
     |some (v,false)=>some (.normal,({l with rc:=some (v,true)}:Loc).put o.dst v,a)
     |_=>some (.normal,l.put o.dst .nilIface,a)
 | some (.defer d,a)=>match cx.round with
   |some _=>none|none=>some (.normal,({l with dfs:=d::l.dfs}:Loc).put o.dst (.tuple #[]),a)
 |r=>oD o l (c6 E R r)

def iG(E:Env)(R:Rec)(cx:Cx)(ops:List Oper):List Oper->Loc->Hp->Option (Ex×Loc×Hp)
 | [],l,h=>some (.normal,l,h)| o ::a,l,h=>match ct ops l.regs o with
   |none=>none|some false=>iG E R cx ops a (l.put o.dst (.tuple #[])) h| some true=>match dW E R cx o l h with
     |some (.normal,b,c)=>iG E R cx ops a b c|r=>r

def cls(E:Env):Op->Nat
 | .move _| .assign _| .pick .. | .nilCheck _| .binOp .. | .unOp .. | .makeInterface .. | .makeFunc .. | .slice .. | .fieldAddr .. | .field ..
 | .indexAddr .. | .index .. | .extract .. | .build .. | .typeAssert .. =>0| .convert a b _=>match E.und a,E.und b with
   |some (.slice _),_=>1|some .string,some (.slice _)=>4|_,_=>0
 | .load .. | .lookup .. =>1| .store .. | .insert .. | .mapUpdate .. | .mapEntry .. | .entryStore .. =>2
 | .alloc _| .box .. | .buildSlice .. | .makeSlice .. | .makeMap .. =>4| .call c=>match c.callee with
   | .builtin .min| .builtin .max=>0| .builtin .len=>1| .builtin .delete| .builtin .copy=>2
   | .builtin .append=>5|_=>3
 |_=>3
def touch(ρ:Operand->Value):Op->Option Nat
 | .load _ a| .store _ a _=>match ρ a with
   | .pointer (some a)=>some a.block|_=>none
 | .lookup _ m _ _| .insert _ m _ _| .mapUpdate _ m _ _| .mapEntry _ m _| .entryStore _ m _ _=>match ρ m with
   | .map r=>r|_=>none
 | .convert _ _ x=>match ρ x with
   | .slice (some a) _ _=>some a.block|_=>none
 | .call c=>match c.args.toList with
   | x::_=>match ρ x with
     | .map r=>r| .slice (some a) _ _=>some a.block|_=>none
   |_=>none
 |_=>none
def befs :List Oper->List Nat->Option (List Nat)
 | [],a=>some a| o ::b,a=>match(o.after.toList.foldl (fun s e=>match s with
     |none=>none| some s=>match e.ground with
       | .textOnly _=>some s| .gcOnly _=>some s| _=>match a[a.length-1-e.on]? with
         |none=>none|some m=>bif Xo e.on a.length then some (Xi (Xi s (Xl 2 e.on)) m)else none) (some 0))with
   |none=>none|some s=>befs b (s::a)
def jR (ops:List Oper) (o:Oper):List Tmp:=
 o.dst.toList++(o.op.operands.toList.filterMap fun x=>match x with| .tmp t=>some t|_=>none)++
  (match o.guard with
    |none=>[]| some (j,_)=>match ops[j]? with
      |none=>[]|some a=>a.dst.toList)
def oe(t:Nat):List Nat->Bool
 | []=>false|x::l=>zB t x||oe t l
def uf(ops:List Oper)(o p:Oper):Bool:=
 (match o.dst with|none=>true|some t=>!oe t (jR ops p))&&(match p.dst with|none=>true|some t=>!oe t (jR ops o))
def qj:Op->Op->Bool
 | .mapEntry t _ _,.lookup a _ _ b=>!b&&zB t a|_,_=>false
def dG:Op->Bool
 | .call c=>match c.callee with
   | .builtin _=>false|_=>true
 |_=>false
def fe:Op->Bool
 | .alloc _=>true|_=>false
def isMk:Op->Bool
 | .makeMap .. =>true|_=>false
def mapArg:Op->Option Tmp
 | .insert _ (.tmp t) _ _=>some t| .mapUpdate _ (.tmp t) _ _=>some t|_=>none
def rY(t:Tmp)(o:Oper):Bool:=match o.dst with
 |some d=>zB d t|none=>false
def atIs(f:Oper->Bool)(ops:List Oper)(k:Nat):Bool:=match ops[k]? with
 |some o=>f o|none=>false
def po(ops:List Oper)(o:Oper)(n i:Nat):Bool:=match mapArg o.op with
 |some t=>(Xc n).any fun k=>Xo i k&&(atIs (fun p=>isMk p.op&&rY t p) ops k&&(Xc n).all fun j=>Nat.ble j k|| !atIs (rY t) ops j)
 |none=>false
def jq (E:Env) (ops:List Oper) (o:Oper) (m n:Nat):List Oper->Nat->Nat×List (Nat×Nat)->Option (Nat×List (Nat×Nat))
 | [],_,r=>some r| p ::a,i,(q,l)=>bif Xu m i then jq E ops o m n a (i+1) (q,l)else
   bif uf ops o p then
    match cls E o.op,cls E p.op with
    |0,_=>jq E ops o m n a (i+1) (q,l)|_,0=>jq E ops o m n a (i+1) (q,l)|1,1=>jq E ops o m n a (i+1) (q,l)|2,1=>jq E ops o m n a (i+1) (q,bif qj o.op p.op then l else(i,n)::l)
    |1,2=>jq E ops o m n a (i+1) (q,bif qj p.op o.op then l else(i,n)::l)
    |5,1=>jq E ops o m n a (i+1) (q,(i,n)::l)|1,5=>jq E ops o m n a (i+1) (q,(i,n)::l)|3,1=>bif dG o.op then jq E ops o m n a (i+1) (q,(i,n)::l)else jq E ops o m n a (i+1) (Xi (Xl 2 n) q,l)
    |1,3=>bif dG p.op then jq E ops o m n a (i+1) (q,(i,n)::l)else jq E ops o m n a (i+1) (Xi (Xl 2 i) q,l)
    |3,4=>bif dG o.op&&fe p.op then jq E ops o m n a (i+1) (q,(i,n)::l)else jq E ops o m n a (i+1) (Xi (Xl 2 n) q,l)
    |2,3=>bif po ops o n i then jq E ops o m n a (i+1) (Xi (Xl 2 i) q,l)else none
    |2,_=>none|_,2=>none|c,d=>jq E ops o m n a (i+1)
     (Xi (bif zB d 3||zB d 5 then Xl 2 i else 0) (Xi (bif zB c 3||zB c 5 then Xl 2 n else 0) q),l)
   else none
def uN(E:Env)(ops:List Oper):List Oper->List Nat->Nat->Nat×List (Nat×Nat)->Option (Nat×List (Nat×Nat))
 | [],_,_,r=>some r| o::a,m::b,n,r=>match jq E ops o m n (ops.take n) 0 r with
   |none=>none|some (q,l)=>uN E ops a b (n+1) (bif zB (cls E o.op) 4 then Xi (Xl 2 n) q else q,l)
 |_,[],_,_=>none
def jh(E:Env)(ops:List Oper):Option (Nat×List (Nat×Nat)):=match befs ops []with
 |none=>none|some a=>uN E ops ops a.reverse 0 (0,[])

def tmpsOf:List Operand->List Tmp
 | []=>[]| .tmp t::l=>t::tmpsOf l|_::l=>tmpsOf l
def Loc.evD(l:Loc)(ts:List Tmp):Operand->Value
 | .tmp t=>bif oe t ts then l.ev (.tmp t)else poison
 |x=>l.ev x
def ey(E:Env)(q i:Nat)(o:Op):Bool:=Xu q i&&Nat.ble 3 (cls E o)
def cI(E:Env)(R:Rec)(ρ:Operand->Value)(a:Bool)(o:Oper)(h:Hp):Option (Value×Hp):=
 bif a then
  match c6 E R (aop E ρ {h with lo:=h.n} o.op)with
  |some (.ret v,b)=>bif Nat.ble h.n b.lo then some (v,{b with lo:=h.lo})else none
  |_=>none
 else match c6 E R (aop E ρ h o.op)with
  |some (.ret v,b)=>some (v,b)|_=>none
inductive Tch where
 |blk (b:Nat)
 |run (h h':Hp)
def jK(ρ:Operand->Value)(op:Op)(h:Hp):Option Nat:=bif fe op then some h.n else touch ρ op
def cH(ρ:Operand->Value)(a:Bool)(op:Op)(h c:Hp):Option Tch:=
 bif dG op then(bif a then none else some (.run h c))else match jK ρ op h with
  |none=>none|some b=>some (.blk b)
def ig(i:Nat)(a:List (Nat×Tch)):Option Tch->List (Nat×Tch)
 |none=>a|some b=>(i,b)::a
def bN(E:Env)(R:Rec)(ops:List Oper)(q:Nat):List Oper->Nat->Loc->Hp->List (Nat×Tch)->Option (Loc×Hp×List (Nat×Tch))
 | [],_,l,h,a=>some (l,h,a)| o ::b,i,l,h,a=>match ct ops l.regs o with
   |none=>none|some false=>bN E R ops q b (i+1) (l.put o.dst (.tuple #[])) h a| some true=>match cI E R (l.evD (tmpsOf o.op.operands.toList)) (ey E q i o.op) o h with
     |none=>none|some (v,c)=>bN E R ops q b (i+1) (l.put o.dst v) c (ig i a (cH (l.evD (tmpsOf o.op.operands.toList)) (ey E q i o.op) o.op h c))
def cF(i:Nat):List (Nat×Tch)->Option Tch
 | []=>none|(k,b)::l=>bif zB i k then some b else cF i l
def sameAddr(a b:Addr):Bool:=zB a.block b.block&&zB a.off b.off&&(match a.spot,b.spot with
 |none,none=>true|some i,some j=>zB i j|_,_=>false)
def rO(a b:Value):Bool:=match cd a b with
 |some t=>t| none=>match a,b with
   | .pointer none,.pointer none=>true| .pointer (some x),.pointer (some y)=>sameAddr x y| .slice none n m,.slice none c d=>zB n c&&zB m d| .slice (some x) n m,.slice (some y) c d=>sameAddr x y&&(zB n c&&zB m d)| .map none,.map none=>true| .map (some x),.map (some y)=>zB x y| .nilFunc,.nilFunc=>true| .nilIface,.nilIface=>true|_,_=>false
def tv:List Value->List Value->Bool
 | [],[]=>true|x::l,y::m=>rO x y&&tv l m|_,_=>false
def xi(a b:Value):Bool:=match a,b with
 | .func (.func g) x y,.func (.func c) d e=>zB g c&&(tv x.toList d.toList&&tv y.toList e.toList)| .iface t x,.iface f y=>zB t f&&rO x y|_,_=>rO a b
def sameT:Tr Value->Tr Value->Bool
 | .nil,.nil=>true| .node x l r,.node a b c=>xi x a&&(sameT l b&&sameT r c)|_,_=>false
def sameE:List (Value×Value×Nat)->List (Value×Value×Nat)->Bool
 | [],[]=>true|(k,x,n)::l,(a,y,m)::b=>rO k a&&(xi x y&&(zB n m&&sameE l b))|_,_=>false
def sameB(x y:Blk):Bool:=(match x,y with
 | .cells t n e m,.cells b d f g=>sameT t b&&(zB n d&&(zB e f&&zB m g))| .map h c,.map a i=>zB c i&&sameE h a|_,_=>false)|| @decide (x=y) (Classical.propDecidable _)
def leaves(h a:Hp)(b:Nat):Bool:=match h.get b,a.get b with
 |some x,some y=>sameB x y|none,none=>true|_,_=>false
def kK:Option Tch->Option Tch->Bool
 |some (.blk a),some (.blk b)=>!Nat.beq a b|some (.blk a),some (.run h c)=>leaves h c a|some (.run h c),some (.blk a)=>leaves h c a|some (.run _ _),some (.run _ _)=>false|_,_=>true
def cB(a:List (Nat×Tch)):List (Nat×Nat)->Bool
 | []=>true|(i,j)::l=>kK (cF i a) (cF j a)&&cB a l

def tJ(o:Oper):Bool:=fe o.op&&o.guard.isNone
def xR(ops:List Oper)(i:Nat):Bool:=match ops[i]? with
 |some o=>tJ o|none=>false
def lates:List Oper->List Bool->List Bool
 | [],a=>a|o::b,a=>lates b ((isMk o.op||o.after.toList.any fun e=>Xo e.on a.length&&a.getD (a.length-1-e.on) false)::a)
def ti(ops:List Oper):Bool:=ops.any (fun o=>dG o.op)&&(ops.any (fun o=>isMk o.op)&&ops.any fun o=>(mapArg o.op).isSome)
def lateAt(ops:List Oper)(i:Nat):Bool:=ti ops&&(lates ops []).reverse.getD i false
def ordL(ops:List Oper):List Nat:=(Xc ops.length).filter (xR ops)++((Xc ops.length).filter (fun i=>!xR ops i&& !lateAt ops i)++(Xc ops.length).filter fun i=>!xR ops i&&lateAt ops i)
def gG(i:Nat):List Nat->Nat
 | []=>0|x::l=>bif zB i x then 0 else gG i l+1
def reix(ord:List Nat)(o:Oper):Oper:={o with after:=o.after.map fun e=>{e with on:=gG e.on ord},guard:=match o.guard with
 |none=>none|some (j,w)=>some (gG j ord,w)}
def fk(ops:List Oper)(ord:List Nat):List Nat->List Oper
 | []=>[]| i::l=>match ops[i]? with
   |none=>fk ops ord l|some o=>reix ord o::fk ops ord l
def iO(n:Nat)(o:Oper):Bool:=match o.guard with
 |none=>true|some (j,_)=>Xo j n
def bU(ops:List Oper):List Oper:=bif (ops.any tJ||ti ops)&&ops.all (iO ops.length)then fk ops (ordL ops) (ordL ops)else ops

def fullM(ops:List Oper)(n:Nat):Bool:=match befs ops []with
 |some (m::_)=>(Xc n).all fun i=>Xu m i
 |_=>false
def jT(ops:List Oper)(n:Nat):Bool:=fullM ops n&&(ops.take n).all (iO n)
def tail2(ops:List Oper):Bool:=match ops.reverse with
 |a::b::_=>!dG a.op&&dG b.op|_=>false
def cutN(ops:List Oper):Nat:=bif tail2 ops&&jT (ops.take (ops.length-1)) (ops.length-1-1)then ops.length-1-1 else ops.length-1
def tW (E:Env) (R:Rec) (cx:Cx) (ops:List Oper) (l:Loc) (h:Hp):Option (Ex×Loc×Hp):=bif jT ops (ops.length-1)then
    match jh E (bU (ops.take (cutN ops)))with
    |none=>none| some (q,a)=>match bN E R (bU (ops.take (cutN ops))) q (bU (ops.take (cutN ops))) 0 l h []with
      |none=>none|some (b,c,d)=>bif cB d a then iG E R cx ops (ops.drop (cutN ops)) b c else none
 else none

def qt:Value->Bool
 | .int _ _=>true|_=>false
def insK(t:Tmp)(o:Oper):Option (TypeId×Value):=match o.op with
 | .insert a (.tmp b) (.const k) _=>bif zB b t&&(o.dst.isNone&&qt k)then some (a,k)else none
 |_=>none
def uE(x y:Value):Bool:=match cd x y with
 |some b=>!b|none=>false
def yx(ty:TypeId):Op->Bool
 | .lookup a _ _ _=>zB a ty|_=>false
def xN(E:Env)(ty:TypeId)(t:Tmp)(o:Oper):Bool:=!rY t o&&(zB (cls E o.op) 0||yx ty o.op)
def ur(E:Env)(os:List Oper)(i:Nat):Option Tmp:=match os[i]?,os[i+1]?,os[i+2]? with
 | some m,some a,some b=>match m.dst with
   | some t=>match insK t a,insK t b with
     |some (c,x),some (d,y)=>bif isMk m.op&&(zB c d&&(uE x y&&(uE y x&&((os.drop (i+3)).all (xN E c t)&&os.all fun o=>o.guard.isNone))))then some t else none
     |_,_=>none
   |none=>none
 |_,_,_=>none
def p7(os:List Oper):Nat:=os.findIdx fun o=>isMk o.op
def swN(k i:Nat):Nat:=bif zB i k then k+1 else bif zB i (k+1)then k else i
def iu(n k:Nat):List Nat:=(Xc n).map (swN k)
def tie(k i:Nat)(o:Oper):Oper:=bif zB i (k+1)then {o with after:=o.after.push ⟨k,.data⟩}else o
def mC(os:List Oper)(k:Nat):List Oper:=os.mapIdx (tie k)
def tR(E:Env)(ops:List Oper):Bool:=(ur E (bU ops) (p7 (bU ops))).isSome
def forkP(E:Env)(os:List Oper):Option (Nat×List (Nat×Nat)):=match ur E os (p7 os),befs os [],jh E (mC os (p7 os+1)),jh E (mC (fk os (iu os.length (p7 os+1)) (iu os.length (p7 os+1))) (p7 os+1))with
 |some _,some _,some (q,b),some (c,a)=>bif zB q c then some (q,b++a)else none
 |_,_,_,_=>none
def pH(t:Option Tmp)(l:Loc)(h:Hp):Option Hp:=match t with
 | some t=>match l.ev (.tmp t)with
   | .map (some b)=>match h.get b with
     |some (.map _ _)=>some (h.put b .dead)|_=>none
   |_=>none
 |none=>none
def forkD(E:Env)(R:Rec)(ops:List Oper)(l:Loc)(h:Hp):Option (Ex×Loc×Hp):=match forkP E (bU ops)with
 |none=>none| some (q,b)=>match bN E R (bU ops) q (bU ops) 0 l h []with
   |none=>none| some (a,c,d)=>bif cB d b then(match pH (ur E (bU ops) (p7 (bU ops))) a c with
     |some e=>some (.normal,a,e)|none=>none)else none
def cutD(E:Env)(R:Rec)(cx:Cx)(ops:List Oper)(l:Loc)(h:Hp):Option (Ex×Loc×Hp):=bif tR E ops then forkD E R ops l h else tW E R cx ops l h

def iR (R:Rec) (cx:Cx) (f:Value) (params:Array Tmp) (assign body:Code) (l:Loc) (h:Hp):Option (Ex×Loc×Hp):=
 match f with
 | .func (.func g) a b=>
   match(match cx.round with
    |none=>some (h.new .dfr,h.n,({target:=.collected h.n,args:=#[]}:Deferred)::l.dfs)| some r=>match h.get r with
      |some (.loop x)=>some (h,x.defers,l.dfs)|_=>none)with
   |none=>none| some (e,d,c)=>
     match R.call g (a.toList++[.func (.yield e.n) #[] #[]]++b.toList) none
      (e.new (.loop {fn:=cx.fn,regs:=l.regs,nr:=cx.nr,params,assign,body,st:=0,pending:=none,defers:=d}))with
     |none=>none|some (.pan v,_,i)=>some (.pan v,{l with dfs:=c},i)
     | some (.ret _,_,i)=>match i.get e.n with
       | some (.loop x)=>match x.st with
         |1=>none| _=>match x.pending with
           |none=>some (.normal,{l with dfs:=c},i.put e.n .dead)
           |some (.exit id)=>some (.exit id,{l with dfs:=c},i.put e.n .dead)
           |some .ret=>some (.ret,{l with dfs:=c},i.put e.n .dead)
           |_=>none
       |_=>none
 |_=>none

def aG (E:Env) (R:Rec) (cx:Cx):Code->Loc->Hp->Option (Ex×Loc×Hp)
 | .skip,l,h=>some (.normal,l,h)| .label _,l,h=>some (.normal,l,h)| .region _ d m,l,h=>bif m then
  bif E.cut cx.fn then cutD E R cx d.toList l h else match jh E (bU d.toList)with
  |none=>none| some (q,o)=>match bN E R (bU d.toList) q (bU d.toList) 0 l h []with
    |none=>none|some (j,k,p)=>bif cB p o then some (.normal,j,k)else none
   else iG E R cx d.toList d.toList l h
 | .seq a b,l,h=>match aG E R cx a l h with
   |some (.normal,j,k)=>aG E R cx b j k|r=>r
 | .cond c a b,l,h=>match l.ev c with
   | .bool t=>bif t then aG E R cx a l h else aG E R cx b l h
   |_=>none
 | .block id b,l,h=>match aG E R cx b l h with
   |some (.exit i,j,k)=>bif zB i id then some (.normal,j,k)else some (.exit i,j,k)
   |r=>r
 | .loop b,l,h=>match aG E R cx b l h with
   |some (.normal,j,k)=>R.code cx (.loop b) j k|r=>r
 | .rangeFunc f e g n,l,h=>iR R cx (l.ev f) e g n l h| .exit id,l,h=>some (.exit id,l,h)| .scope b,l,h=>aG E R cx b l h| .goto _,_,_=>none| .ret,l,h=>some (.ret,l,h)| .refuse _,_,_=>none

def ck (R:Rec):List Deferred->Option Value->Hp->Option (Option Value×Hp)
 | [],m,h=>some (m,h)| d ::a,m,h=>match d.target with
   | .collected b=>match h.get b with
     |some .dfr=>ck R a m (h.put b .dead)|_=>none
   | .fn (.func f) c=>match R.call f (d.args.toList++c.toList) (match m with|none=>none|some v=>some (v,false)) h with
     | some (.ret _,g,e)=>match m,g with
       |none,none=>ck R a none e|some _,some (_,true)=>ck R a none e|some _,some (v,false)=>ck R a (some v) e|_,_=>none
     |_=>none
   |_=>none
def bH(E:Env)(b:Tr Value)(h:Hp):List ResultVar->Option (List Value)
 | []=>some []| .tmp t::c=>match bH E b h c with
   |none=>none|some l=>some ((match b.get t with|some v=>v|none=>.tuple #[])::l)
 | .cell a t::c=>match eK E h t (match b.get a with|some v=>v|none=>.tuple #[])with
   |none=>none| some v=>match bH E b h c with
     |none=>none|some l=>some (v::l)
def ab:List Value->Value
 | [v]=>v|l=>.tuple ⟨l⟩
def kH (E:Env) (R:Rec) (f:FuncId) (args:List Value) (g:Option (Value×Bool)) (h:Hp):Option (Out×Option (Value×Bool)×Hp):=
 match E.fn f with
 |none=>none| some b=>match b.body with
   |none=>none| some c=>
     bif Nat.ble args.length b.ntmps then
     match R.code ⟨f,b.ntmps,none⟩ c ⟨(Tr.blank (.tuple #[]) b.ntmps b.ntmps).setAll 0 args,[],g⟩ h with
     |none=>none|some (.exit _,_,_)=>none| some (.pan v,l,d)=>match ck R l.dfs (some v) d with
       |none=>none|some (some v,a)=>some (.pan v,l.rc,a)| some (none,a)=>match bH E l.regs a b.results.toList with
         |none=>none|some e=>some (.ret (ab e),l.rc,a)
     | some (_,l,d)=>match ck R l.dfs none d with
       | some (none,a)=>match bH E l.regs a b.results.toList with
         |none=>none|some e=>some (.ret (ab e),l.rc,a)
       |_=>none
     else none

def iY(E:Env)(R:Rec)(f:FuncId)(args:List Value)(a:Option (Value×Bool))(h:Hp):Option (Out×Option (Value×Bool)×Hp):=
 match E.orc f args with
 |none=>kH E R f args a h| some v=>match a with
   |none=>some (.ret v,none,h)|some _=>none

def next(E:Env)(R:Rec):Rec:={call:=iY E R,code:=aG E R}
def bot:Rec:={call:=fun _ _ _ _=>none,code:=fun _ _ _ _=>none}
def run(E:Env):Nat->Rec
 |0=>bot|n+1=>next E (run E n)
end
end Go.Ab

namespace Go.Ab

structure FC where
 fn:FuncId
 kind:CallKind
 round:Option Nat
def FC.mk'(F:FC)(tmps:Array Value)(dfs:List Deferred)(todo:List Item):Frame:=
 {fn:=F.fn,tmps,todo,defers:=dfs,mode:=.run,kind:=F.kind,roundOf:=F.round}

section steps
variable{P:Program}{F:FC}{tmps:Array Value}{dfs:List Deferred}{k:List Item}{cs:List Frame}{w:World}

theorem st_skip:step P (lone (F.mk' tmps dfs (.code .skip::k)) cs w)=.next (lone (F.mk' tmps dfs k) cs w):=step_lone_go (by rfl)
theorem st_label{l:Nat}:step P (lone (F.mk' tmps dfs (.code (.label l)::k)) cs w)=.next (lone (F.mk' tmps dfs k) cs w):=step_lone_go (by rfl)
theorem CR{id:Nat}:step P (lone (F.mk' tmps dfs (.inBlock id::k)) cs w)=.next (lone (F.mk' tmps dfs k) cs w):=step_lone_go (by rfl)
theorem C0{b:Code}:step P (lone (F.mk' tmps dfs (.inScope b::k)) cs w)=.next (lone (F.mk' tmps dfs k) cs w):=step_lone_go (by rfl)
theorem st_seq{a b:Code}:step P (lone (F.mk' tmps dfs (.code (.seq a b)::k)) cs w)=.next (lone (F.mk' tmps dfs (.code a:: .code b::k)) cs w):=step_lone_go (by rfl)
theorem st_block{id:Nat}{b:Code}:step P (lone (F.mk' tmps dfs (.code (.block id b)::k)) cs w)=.next (lone (F.mk' tmps dfs (.code b:: .inBlock id::k)) cs w):=step_lone_go (by rfl)
theorem st_loop{b:Code}:step P (lone (F.mk' tmps dfs (.code (.loop b)::k)) cs w)=.next (lone (F.mk' tmps dfs (.code b:: .inLoop b::k)) cs w):=step_lone_go (by rfl)
theorem st_inLoop{b:Code}:step P (lone (F.mk' tmps dfs (.inLoop b::k)) cs w)=.next (lone (F.mk' tmps dfs (.code b:: .inLoop b::k)) cs w):=step_lone_go (by rfl)
theorem st_scope{b:Code}:step P (lone (F.mk' tmps dfs (.code (.scope b)::k)) cs w)=.next (lone (F.mk' tmps dfs (.code b:: .inScope b::k)) cs w):=step_lone_go (by rfl)
theorem st_exit{id:Nat}{k':List Item}(h:exitTo id k=some k'):step P (lone (F.mk' tmps dfs (.code (.exit id)::k)) cs w)=.next (lone (F.mk' tmps dfs k') cs w):=step_lone_go (by simp [stepG,stepG.exec,FC.mk',h])
theorem st_region{id:Nat}{ops:Array Oper}:step P (lone (F.mk' tmps dfs (.code (.region id ops false)::k)) cs w)=.next (lone (F.mk' tmps dfs (.inRegion ops (Xc ops.size)::k)) cs w):=step_lone_go (by rfl)
theorem rN{id:Nat}{ops:Array Oper}:step P (lone (F.mk' tmps dfs (.code (.region id ops true)::k)) cs w)=
 .next (lone (F.mk' tmps dfs (.inRegion ops (Region.schedule (P.follows .mixedOrders) ops (w.tape w.drawn (.order F.fn id)))::k)) cs {w with drawn:=w.drawn+1}):=
 step_lone_go (by rfl)
theorem pz{ops:Array Oper}:step P (lone (F.mk' tmps dfs (.inRegion ops []::k)) cs w)=.next (lone (F.mk' tmps dfs k) cs w):=step_lone_go (by rfl)

def dH(tmps:Array Value):Operand->Value
 | .tmp t=>tmps.getD t undef| .const v=>v| .global g=>.pointer (some ⟨g,0,none⟩)| .func f=>.func (.func f) #[] #[]
theorem yw(todo:List Item):(F.mk' tmps dfs todo).eval=dH tmps:=by rfl
theorem st_cond{c:Operand}{a b:Code}{t:Bool}(h:dH tmps c=.bool t):step P (lone (F.mk' tmps dfs (.code (.cond c a b)::k)) cs w)=.next (lone (F.mk' tmps dfs (.code (if t then a else b)::k)) cs w):=
 step_lone_go (by
  have:=congrFun (yw (F:=F) (tmps:=tmps) (dfs:=dfs) (.code (.cond c a b)::k)) c;simp_all[FC.mk',stepG,stepG.exec])

def gL(tmps:Array Value)(d:Option Tmp)(v:Value):Array Value:=match d with
 |some d=>tmps.setIfInBounds d v|none=>tmps
theorem kp{ops:Array Oper}{i:Nat}{rest:List Nat}(v:Value):(F.mk' tmps dfs (.inRegion ops (i::rest)::k)).finish v=F.mk' (gL tmps ((ops[i]?).bind (·.dst)) v) dfs (.inRegion ops rest::k):=by rfl
theorem xE{ops:Array Oper}{i:Nat}{rest:List Nat}(h:((ops[i]?).map (Region.wanted · (yielded ops tmps))).getD false=false):
 step P (lone (F.mk' tmps dfs (.inRegion ops (i::rest)::k)) cs w)=.next (lone (F.mk' (gL tmps ((ops[i]?).bind (·.dst)) undef) dfs (.inRegion ops rest::k)) cs w):=by
 rw [<-kp];exact step_lone_go (by
  simp_all[FC.mk',stepG,stepG.exec])
theorem oV{ops:Array Oper}{i:Nat}{rest:List Nat}{o:Oper}(a:ops[i]? =some o)(b:Region.wanted o (yielded ops tmps)=true)(d:F.round=none\/ ∀c,o.op≠ .defer c):
 stepG P true {frame:=F.mk' tmps dfs (.inRegion ops (i::rest)::k),callers:=cs,status:=.running,dying:=none} w=
  stepG.apply P true (F.mk' tmps dfs (.inRegion ops (i::rest)::k)) cs none (execOp (dH tmps) o) w:=by
 grind[yw,FC.mk',stepG,stepG.exec,stepG.oper,Frame.oper?]

section op
variable{ops:Array Oper}{i:Nat}{rest:List Nat}{o:Oper}{w':World}
theorem A6(a:ops[i]? =some o)(b:Region.wanted o (yielded ops tmps)=true)(d:F.round=none\/ ∀c,o.op≠ .defer c){v:Value}(e:(execOp (dH tmps) o).run P w=.ok (.value v) w'):
 step P (lone (F.mk' tmps dfs (.inRegion ops (i::rest)::k)) cs w)=.next (lone (F.mk' (gL tmps o.dst v) dfs (.inRegion ops rest::k)) cs w'):=by
 have:F.mk' (gL tmps o.dst v) dfs (.inRegion ops rest::k)=(F.mk' tmps dfs (.inRegion ops (i::rest)::k)).finish v:=by rw [kp,a];rfl
 rw [this];exact step_lone_go (by rw [oV a b d];simp [stepG.apply,e])
theorem st_opskip(a:ops[i]? =some o)(b:Region.wanted o (yielded ops tmps)=true)(d:F.round=none\/ ∀c,o.op≠ .defer c)(e:(execOp (dH tmps) o).run P w=.ok .skip w'):
 step P (lone (F.mk' tmps dfs (.inRegion ops (i::rest)::k)) cs w)=.next (lone (F.mk' (gL tmps o.dst undef) dfs (.inRegion ops rest::k)) cs w'):=by
 have:F.mk' (gL tmps o.dst undef) dfs (.inRegion ops rest::k)=(F.mk' tmps dfs (.inRegion ops (i::rest)::k)).finish undef:=by rw [kp,a];rfl
 rw [this];exact step_lone_go (by rw [oV a b d];simp [stepG.apply,e])
theorem st_enter(a:ops[i]? =some o)(b:Region.wanted o (yielded ops tmps)=true)(d:F.round=none\/ ∀c,o.op≠ .defer c){f:FuncId}{args:Array Value}(e:(execOp (dH tmps) o).run P w=.ok (.enter f args) w'):
 step P (lone (F.mk' tmps dfs (.inRegion ops (i::rest)::k)) cs w)=.next (lone (Frame.enter P f args .normal) (F.mk' tmps dfs (.inRegion ops (i::rest)::k)::cs) w'):=
 step_lone_go (by rw [oV a b d];simp [stepG.apply,e,FC.mk'])
theorem st_round(e:ops[i]? =some o)(g:Region.wanted o (yielded ops tmps)=true)(h:F.round=none\/ ∀c,o.op≠ .defer c){l:Nat}{f:FuncId}{d:Array Value}{a b:Code}(j:(execOp (dH tmps) o).run P w=.ok (.round l f d a b) w'):
 step P (lone (F.mk' tmps dfs (.inRegion ops (i::rest)::k)) cs w)=.next (lone (Frame.round l f d a b .normal) (F.mk' tmps dfs (.inRegion ops (i::rest)::k)::cs) w'):=
 step_lone_go (by rw [oV e g h];simp [stepG.apply,j,FC.mk'])
theorem st_defer(a:ops[i]? =some o)(b:Region.wanted o (yielded ops tmps)=true)(c:F.round=none){d:Deferred}(e:(execOp (dH tmps) o).run P w=.ok (.defer d) w'):
 step P (lone (F.mk' tmps dfs (.inRegion ops (i::rest)::k)) cs w)=.next (lone (F.mk' (gL tmps o.dst undef) (d::dfs) (.inRegion ops rest::k)) cs w'):=by
 have:F.mk' (gL tmps o.dst undef) (d::dfs) (.inRegion ops rest::k)=(F.mk' tmps (d::dfs) (.inRegion ops (i::rest)::k)).finish undef:=by rw [kp,a];rfl
 rw [this];exact step_lone_go (by rw [oV a b (.inl c)];simp [stepG.apply,e,FC.mk'])
theorem st_panic(a:ops[i]? =some o)(b:Region.wanted o (yielded ops tmps)=true)(d:F.round=none\/ ∀c,o.op≠ .defer c){v:Value}(e:(execOp (dH tmps) o).run P w=.halt (.panic v) w'):
 step P (lone (F.mk' tmps dfs (.inRegion ops (i::rest)::k)) cs w)=.next (lone {F.mk' tmps dfs (.inRegion ops (i::rest)::k)with mode:=.panicking [{v,recovered:=false}]} cs w'):=
 step_lone_go (by rw [oV a b d];simp [stepG.apply,e,Frame.raise,FC.mk'])
theorem xn(a:ops[i]? =some o)(d:Region.wanted o (yielded ops tmps)=true)(b:F.round=none)(e:(execOp (dH tmps) o).run P w=.ok .recover w')
 (f:tryRecover (F.mk' tmps dfs (.inRegion ops (i::rest)::k)) cs=none):
 step P (lone (F.mk' tmps dfs (.inRegion ops (i::rest)::k)) cs w)=.next (lone (F.mk' (gL tmps o.dst .nilIface) dfs (.inRegion ops rest::k)) cs w'):=by
 have:F.mk' (gL tmps o.dst .nilIface) dfs (.inRegion ops rest::k)=(F.mk' tmps dfs (.inRegion ops (i::rest)::k)).finish .nilIface:=by rw [kp,a];rfl
 rw [this];have c:(F.mk' tmps dfs (.inRegion ops (i::rest)::k)).roundOf=none:=b;exact step_lone_go (by simp_all[oV,stepG.apply])
theorem wP(b:ops[i]? =some o)(e:Region.wanted o (yielded ops tmps)=true)(c:F.round=none)(f:(execOp (dH tmps) o).run P w=.ok .recover w'){v:Value}{a:List Frame}
 (g:tryRecover (F.mk' tmps dfs (.inRegion ops (i::rest)::k)) cs=some (v,a)):
 step P (lone (F.mk' tmps dfs (.inRegion ops (i::rest)::k)) cs w)=.next (lone (F.mk' (gL tmps o.dst v) dfs (.inRegion ops rest::k)) a w'):=by
 have:F.mk' (gL tmps o.dst v) dfs (.inRegion ops rest::k)=(F.mk' tmps dfs (.inRegion ops (i::rest)::k)).finish v:=by rw [kp,b];rfl
 rw [this];have d:(F.mk' tmps dfs (.inRegion ops (i::rest)::k)).roundOf=none:=c;exact step_lone_go (by simp_all[oV,stepG.apply])
end op

structure LeaveP(P:Program)(fr:Frame)(kind:CallKind)(v:Value):Prop where
 mode:fr.mode=.panicking [{v,recovered:=false}]
 defers:fr.defers=[]
 kind:fr.kind=kind
 fn: ∃fn,P.funcs[fr.fn]? =some fn
theorem Bv{a c:Frame}{v:Value}(h:rG P a w .normal v):step P (lone a (c::cs) w)=.next (lone (c.finish v) cs w):=by obtain⟨d,hf,b⟩:=h.res;exact step_lone_go (by simp [stepG,unwind,doReturn,h.mode,h.defers,h.kind,hf,b])
theorem ni{b c:Frame}{a:CallKind}{v:Value}(h:LeaveP P b a v):step P (lone b (c::cs) w)=.next (lone (c.raise [{v,recovered:=false}]) cs w):=by obtain⟨d,hf⟩:=h.fn;exact step_lone_go (by simp [stepG,unwind,Frame.catches,h.mode,h.defers,hf])
end steps
end Go.Ab

namespace Go.Ab
section
variable{P:Program}{F:FC}{tmps:Array Value}{dfs:List Deferred}{k:List Item}{cs:List Frame}{w:World}

def setW(w:World)(c:Nat)(o:Obj):World:={w with heap:=w.heap.setIfInBounds c o}
def Plain:Obj->Prop
 | .cells .. =>False|_=>True
theorem pL{c:Nat}{o q:Obj}(a:w.heap[c]? =some q)(hq:Plain q):(setObj c o).run P w=.ok () (setW w c o):=by cases q<;>first|exact hq.elim|simp [setObj,Sem.run,a,setW]
theorem xh{c:Nat}{q:Obj}(a:w.heap[c]? =some q)(hq:Plain q):(getObj c).run P w=.ok q w:=by cases q<;>first|exact hq.elim|simp [getObj,Sem.run,a]
theorem lq{c:Nat}{r:Loop}(a:w.heap[c]? =some (.loop r)):(Instr.getLoop c).run P w=.ok r w:=by unfold Instr.getLoop;simp only [Sem.run_bind,xh a trivial,Result.andThen_ok,Sem.run_pure]
theorem yj{c:Nat}{r:Loop}(a:w.heap[c]? =some (.loop r))(b:r.state=.ready):
 (Instr.beginRound c).run P w=.ok () (setW w c (.loop {r with state:=.busy})):=by
 unfold Instr.beginRound;simp only [Sem.run_bind,lq a,Result.andThen_ok,pL a trivial,b,Sem.run_pure]
theorem A9{c:Nat}{r:Loop}(b:w.heap[c]? =some (.loop r))(a:Option Code):
 (Instr.endRound c a).run P w=.ok (.bool a.isNone) (setW w c (.loop {r with state:=if a.isNone then .ready else .done,pending:=a})):=by
 unfold Instr.endRound;simp only [Sem.run_bind,lq b,Result.andThen_ok,pL b trivial,Sem.run_pure]
theorem BQ{c:Nat}{r:Loop}(a:w.heap[c]? =some (.loop r))(b:r.state≠ .busy):
 (Instr.endLoop c).run P w=.ok r.pending (setW w c (.loop {r with state:=.exhausted})):=by
 unfold Instr.endLoop;have:(r.state==LoopState.busy)=false:=by grind
 simp only [Sem.run_bind,lq a,Result.andThen_ok,this,zO,if_false,pL a trivial,Sem.run_pure]
theorem vu{c:Nat}{a:List Deferred}(b:w.heap[c]? =some (.deferred (some a))):
 (Instr.takeDeferred c).run P w=.ok a (setW w c (.deferred none)):=by
 unfold Instr.takeDeferred;simp only [Sem.run_bind,xh b trivial,Result.andThen_ok,pL b trivial,Sem.run_pure]

theorem zW{c:Nat}(a:F.round=some c){r:Loop}(b:w.heap[c]? =some (.loop r))(d:r.state=.ready):
 step P (lone (F.mk' tmps dfs (.beginRound::k)) cs w)=.next (lone (F.mk' tmps dfs k) cs (setW w c (.loop {r with state:=.busy}))):=by
 refine step_lone_go ?_;simp_all[yj,stepG,stepG.exec,stepG.apply,FC.mk',Frame.finish]
def Am(todo:List Item)(a:Option Code):Prop:=
 (todo=[]/\a=none)\/(∃b,todo=.code .ret::b/\a=some .ret)\/(∃id b,todo=.code (.exit id)::b/\exitTo id b=none/\a=some (.exit id))
theorem zP{c:Nat}(b:F.round=some c)(d:F.kind=.normal){r:Loop}(f:w.heap[c]? =some (.loop r)){todo:List Item}{a:Option Code}(g:Am todo a){c0:Frame}:
 step P (lone (F.mk' tmps dfs todo) (c0::cs) w)=
  .next (lone (c0.finish (.bool a.isNone)) cs (setW w c (.loop {r with state:=if a.isNone then .ready else .done,pending:=a}))):=by
 refine step_lone_go ?_;have e:=A9 (P:=P) f a;rcases g with⟨rfl,rfl⟩|⟨h,rfl,rfl⟩|⟨id,h,rfl,i,rfl⟩
 . simp [stepG,stepG.exec,FC.mk',b,e,doReturn,d]
 . simp [stepG,stepG.exec,FC.mk',b,e,doReturn,d]
 simp_all[stepG,stepG.exec,FC.mk',doReturn]
theorem C4(a:F.round=none){todo:List Item}(c:todo=[]\/ ∃b,todo=.code .ret::b):
 step P (lone (F.mk' tmps dfs todo) cs w)=.next (lone {F.mk' tmps dfs todo with mode:=.returning} cs w):=by
 refine step_lone_go ?_;rcases c with rfl|⟨b,rfl⟩
 . simp [stepG,stepG.exec,FC.mk',a]
 . simp [stepG,stepG.exec,FC.mk',a]
theorem BY{c:Nat}{r:Loop}(a:w.heap[c]? =some (.loop r))(b:r.state≠ .busy):
 step P (lone (F.mk' tmps dfs (.endRangeFunc c::k)) cs w)=.next (lone (F.mk' tmps dfs ((r.pending.map Item.code).toList++k)) cs (setW w c (.loop {r with state:=.exhausted}))):=by
 refine step_lone_go ?_;simp_all[BQ,stepG,stepG.exec,FC.mk']

def mS(w:World)(o:Obj):World:={w with heap:=w.heap.push o}
theorem xF{o:Obj}:(newObj o).run P w=.ok w.heap.size (mS w o):=by rfl
theorem AU{params:Array Tmp}{assign body:Code}:
 (Instr.enterLoop F.fn tmps params assign body none).run P w=.ok (w.heap.size+1,[{target:=.collected w.heap.size,args:=#[]}])
  (mS (mS w (.deferred (some []))) (.loop {state:=.ready,pending:=none,fn:=F.fn,tmps,params,assign,body,defers:=w.heap.size})):=by
 unfold Instr.enterLoop;simp only [Sem.run_bind,xF,Result.andThen_ok,Sem.run_pure];simp [mS]
theorem xG{c:Nat}{r:Loop}(a:w.heap[c]? =some (.loop r)){params:Array Tmp}{assign body:Code}:
 (Instr.enterLoop F.fn tmps params assign body (some c)).run P w=.ok (w.heap.size,[])
  (mS w (.loop {state:=.ready,pending:=none,fn:=F.fn,tmps,params,assign,body,defers:=r.defers})):=by
 unfold Instr.enterLoop;simp only [Sem.run_bind,xF,Result.andThen_ok,Sem.run_pure,lq a]
theorem st_range{f:Operand}{params:Array Tmp}{assign body:Code}{g:FuncId}{x y:Array Value}(hf:dH tmps f=.func (.func g) x y)
 (e: ∀args w,(callFunc g args).run P w=.ok (.enter g args) w) {c:Nat} {mark:List Deferred} {b:World}
 (i:(Instr.enterLoop F.fn tmps params assign body F.round).run P w=.ok (c,mark) b):
 step P (lone (F.mk' tmps dfs (.code (.rangeFunc f params assign body)::k)) cs w)=
  .next (lone (Frame.enter P g (x++#[.func (.yield c) #[] #[]]++y) .normal) (F.mk' tmps (mark++dfs) (.inRangeFunc c::k)::cs) b):=by
 refine step_lone_go ?_;have h:=yw (F:=F) (tmps:=tmps) (dfs:=mark++dfs) (.inRangeFunc c::k);simp only [FC.mk']at h;have j: ∀a,(do let d<-resolve (dH tmps) {callee:=.value f,args:=#[.const (.func (.yield c) #[] #[])],argTypes:=#[]} 0;invoke d.target d.args).run P a=
  .ok (.enter g (x++#[.func (.yield c) #[] #[]]++y)) a:=by
  intro a;simp [resolve,hf,Deferred.ofValue,invoke,e,show∀v,dH tmps (.const v)=v from fun _=>rfl]
 simp_all[stepG,stepG.exec,FC.mk',stepG.apply]
end
end Go.Ab

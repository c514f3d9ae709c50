/- A deterministic evaluator of the model's code, and that the model follows it (part 2). -/
import Derived.Test.YtddjlflghenhkaaGreatDoorKabA
open Nat renaming beq->zM,min->Xh,le_refl->Xi,lor->Xj,pow->Xm,blt->Xp,mul_le_mul_right->Xr,zero_add->Xs,mul_one->Xt,add_mul->Xu,testBit->Xv
open Array renaming getElem?_toList->zO,toList_map->Xc,toList_modify->Xk,toList_append->Xl,range->Xo,ext'->Xw
open Bool renaming false_eq_true->Xa,and_self->Xn,not_false->Xq
open List renaming all_eq_true->Xb,range->Xd,getElem?_append_right->Xe,getElem?_append_left->Xf,getElem?_eq_getElem->Xg
set_option maxHeartbeats 400000
set_option linter.defProp false
set_option linter.unusedVariables false
set_option linter.unusedSimpArgs false
namespace Go.Ab
variable{k k' m s s' v v' x x':Value}
variable{a b c cap' i id len n:Nat}
variable{e kt t ty:TypeId}
variable{mu:Mu}
variable{w:World}
variable{h h':Hp}
variable{ops:Array Oper}
variable{rest:List Nat}
section
variable{E:Env}{P:Program}(ok:EOk E P)
theorem sc : ∀(l m:List Value) {r:Bool},dP l m=some r->(∀v∈l,qa v=true)/\(∀v∈m,qa v=true)/\l.length=m.length/\(r=true↔l=m):=by
 intro l
 induction l with
 | nil=>grind[dP]| cons a l e=>
   intro m r h;cases m with
   |nil=>cases a<;>simp [dP]at h
   | cons b m=>
     cases a<;>(try (simp [dP]at h;done));cases b<;>(try (simp [dP]at h;done));rename_i k x f y;simp only [dP,iU]at h;by_cases g:k=f
     . subst g;simp only [decide_true,cond_true]at h;cases d:dP l m with
       |none=>simp [d]at h| some q=>
         rw [d]at h;simp only []at h;obtain⟨i,j,n,o⟩:=e m d;refine⟨fun v c=>?_,fun v c=>?_,by simp [n],?_⟩
         . rcases List.mem_cons.1 c with rfl|c
           . rfl
           . exact i v c
         . rcases List.mem_cons.1 c with rfl|c
           . rfl
           . exact j v c
         grind[iW]
     grind
theorem C9: ∀(l m:List Value) {r:Bool},dP l m=some r->dP m l=some r:=by
 intro l
 induction l with
 | nil=>grind[dP]| cons a l e=>
   intro m r h;cases m with
   |nil=>cases a<;>simp [dP]at h
   | cons b m=>
     cases a<;>(try (simp [dP]at h;done));cases b<;>(try (simp [dP]at h;done));rename_i k x c y;simp only [dP,iU]at h⊢;by_cases d:k=c
     . subst d;simp only [decide_true,cond_true]at h⊢;grind[dP,iW,Bool.beq_comm]
     grind
theorem sameBits_self(h:qa v=true)(n:Nat):Instr.sameBits n v v=true:=by cases v<;>simp only [qa]at h<;>(try (cases h;done));cases n<;>simp [Instr.sameBits]
theorem rN{a b:Value}(h:cF a b=some true): ∀n,Instr.sameBits (n+1) a b=true:=by
 intro n;unfold cF at h;cases a<;>(try (simp at h;done))<;>cases b<;>(try (simp at h;done))
 . rename_i x y;cases x<;>cases y<;>simp at h<;>rfl
 . grind[iU,iW,Instr.sameBits]
 . rename_i s u;simp only []at h;rw [kH]at h;simp at h;have:s=u:=(by cases s;cases u;simp [aM]at h;simp [h]);subst this;have d:(s==s)=true:=(by show(s.data==s.data)=true;simp);simp [Instr.sameBits,d]
 . rename_i x y;simp only []at h;obtain⟨f,_,_,i⟩:=sc _ _ h;have e:x=y:=(by simp_all);subst e;simp only [Instr.sameBits,beq_self_eq_true,Bool.true_and,Xb];have: ∀(l:List Value),(∀v∈l,qa v=true)-> ∀p∈l.zip l,Instr.sameBits n p.1 p.2=true:=by
    intro l
    induction l with
    |nil=>simp_all| cons v l j=>
      intro g p c;rw [List.zip_cons_cons]at c;rcases List.mem_cons.1 c with rfl|c
      . exact sameBits_self (g v (by simp)) n
      grind
   exact this _ f
theorem yf{a b:Value}(t:Bool)(h:cF a b=some t):cF b a=some t:=by
 unfold cF at*
 grind[iU,iW,Bool.beq_comm,kH,C9]
def iO:TypeDesc->Bool
 | .array _ _=>true|_=>false
theorem th{d:TypeDesc}{t:Bool}(c:iO d=false)(e:E.und kt=some d)(hf:bQ E kt k=true)(h:cF k k'=some t):Instr.sameNow d k k'=some t:=by
 unfold bQ at hf;simp only [e]at hf;unfold cF at h;cases d<;>simp only []at hf<;>try (cases hf;done)
 . cases k<;>simp only []at hf<;>try (cases hf;done)
   cases k'<;>simp only []at h<;>try (cases h;done)
   rename_i a b;cases h;cases a<;>cases b<;>rfl
 . grind[hf,iU,iW,Instr.sameNow]
 . cases k<;>simp only []at hf<;>try (cases hf;done)
   cases k'<;>simp only []at h<;>try (cases h;done)
   rename_i a b;rw [kH]at h;cases h;simp only [Instr.sameNow];congr 1;rw [show(a==b)=(a.data==b.data)from rfl,<-Array.beq_toList];rfl
 . cases c
theorem pu    (g:E.und kt=some (.array n e)) (hf:bQ E kt k=true): ∃(cs:Array Value) (kd:IntKind),k=.agg cs/\E.agg e=some false/\E.sz e=some 1/\cs.toList.length=n/\E.und e=some (.int kd)/\ ∀v∈cs.toList,∃x,v=.int kd x:=by
 unfold bQ at hf;simp only [g]at hf;cases k<;>simp only []at hf<;>try (cases hf;done)
 rename_i cs;cases a:E.agg e with
 |none=>simp [a]at hf| some b=>
   cases b with
   |true=>simp [a]at hf| false =>
     cases h:E.sz e with
     |none=>grind| some s=>
       cases i:E.und e with
       |none=>grind| some d=>
         rw [a,h,i]at hf;cases d<;>simp only []at hf<;>try (cases hf;done)
         rename_i kd;simp only [cS]at hf;by_cases c:s=1
         . by_cases f:cs.toList.length=n
           . simp only [c,f,decide_true,cond_true,Xb]at hf;refine⟨cs,kd,rfl,rfl,by rw [c],f,rfl,fun v j=>?_⟩;have:=hf v j;cases v<;>simp only [isKd]at this<;>try (cases this;done)
             rename_i l x;rw [iU]at this;grind
           grind
         grind
theorem fits_ok(hf:bQ E kt k=true):vf k=true:=by
 cases a:E.und kt with
 |none=>unfold bQ at hf;simp [a]at hf| some d=>
   cases b:iO d with
   | true=>
     cases d<;>simp only [iO]at b<;>try (cases b;done)
     obtain⟨e,f,rfl,_,_,_,_,c⟩:=pu a hf;simp only [vf,Xb];intro v h;obtain⟨x,rfl⟩:=c v h;rfl
   | false=>
     unfold bQ at hf;simp only [a]at hf;cases d<;>simp only []at hf<;>(try (cases hf;done))<;>(try (cases b;done))<;>(cases k<;>simp only []at hf<;>(try (cases hf;done))<;>rfl)
include ok in
theorem jX   (hf:bQ E kt k=true) (b:Bool) (w:World):(Instr.checkKey b 10000 kt k).run P w=.ok () w:=by
 cases f:E.und kt with
 |none=>unfold bQ at hf;simp [f]at hf| some d=>
   show((Instr.checkKey b (9998+1+1) kt k)).run P w=_;cases h:iO d with
   | true=>
     cases d<;>simp only [iO]at h<;>try (cases h;done)
     rename_i n e;obtain⟨a,A,rfl,o,l,B,p,q⟩:=pu f hf;unfold Instr.checkKey;simp only [Sem.run_bind,bN ok f,Result.andThen_ok,eg ok l];have g: ∀i,i<n-> ∃v,(part e a (i*1)).run P w=.ok v w/\(Instr.checkKey b (9998+1) e v).run P w=.ok () w:=by
      intro i r;have hlt:i<a.toList.length:=(by omega);obtain⟨x,t⟩:=q _ (List.getElem_mem hlt);refine⟨a.toList[i],?_,?_⟩
      . unfold part;have:a[i]? =some a.toList[i]:=(by grind);rw [Xt];simp only [Sem.run_bind,vj ok o,Result.andThen_ok];simp_all
      . rw [t];unfold Instr.checkKey;simp only [Sem.run_bind,bN ok p,Result.andThen_ok];rfl
     have u: ∀(m i:Nat),i+m<=n->(forIn (List.range' i m) PUnit.unit (fun i _=>do
      let s<-sizeOf e
      let c<-part e a (i*s)
      Instr.checkKey b (9998+1) e c
      pure (ForInStep.yield PUnit.unit)):Sem PUnit).run P w=.ok PUnit.unit w:=by
      intro m
      induction m with
      |zero=>intro i _;simp| succ m j=>
        intro i r;obtain⟨v,y,z⟩:=g i (by omega);simp only [List.range'_succ,List.forIn_cons,Sem.run_bind,eg ok l,y,z,Result.andThen_ok];simpa using j (i+1) (by omega)
     simp_all
   | false=>
     unfold bQ at hf;simp only [f]at hf;unfold Instr.checkKey;simp only [Sem.run_bind,bN ok f,Result.andThen_ok];cases d<;>simp only []at hf<;>(try (cases hf;done))<;>(try (cases h;done))
     all_goals rfl
theorem elems_arr  {kd:IntKind} (g:E.agg e=some false) (w:E.und e=some (.int kd)): ∀(l m:List Value) {r:Bool},dP l m=some r->(∀v∈l,∃x,v=.int kd x)-> ∀(p q:List Value),p.length=q.length->pq E (fj E 39) e 1 (p++l) (q++m) l.length p.length=some r:=by
 intro l
 induction l with
 | nil=>
   intro m r h _ p q _;cases m with
   |nil=>simp only [dP]at h;cases h;rfl
   |cons b m=>simp [dP]at h
 | cons a l j=>
   intro m r h i p q c;obtain⟨x,rfl⟩:=i a (by simp);cases m with
   |nil=>simp [dP]at h| cons b m=>
     cases b<;>(try (simp [dP]at h;done));rename_i d y;simp only [dP]at h;have k:partOf E e (p++ .int kd x::l) (p.length*1)=some (.int kd x):=(by unfold partOf;rw [g];simp);have n:partOf E e (q++ .int d y::m) (p.length*1)=some (.int d y):=(by unfold partOf;rw [g,c];simp);cases o:jO kd d with
     |false=>grind| true=>
       rw [o]at h;simp only [cond_true]at h;have s:fj E 39 e (.int kd x) (.int d y)=some (jg x y):=(by show fj E (38+1) e _ _=_;unfold fj;grind);cases f:dP l m with
       |none=>simp [f]at h| some z=>
         rw [f]at h;simp only []at h;simp only [List.length_cons,pq,k,n,s];cases t:jg x y with
         |false=>grind| true=>
           rw [t]at h;simp only [cond_true]at h;simp only [];cases h;have:=j m f (fun v u=>i v (by simp [u])) (p++[.int kd x]) (q++[.int d y]) (by simp [c]);simpa using this
theorem aw.ints(mu:Mu){cs:Array Value}(h: ∀v∈cs.toList,qa v=true):aw mu (.agg cs) (.agg cs):=by
 refine .agg rfl fun i v c b a=>?_;rw [b]at a;cases a;have:=h v (List.mem_of_getElem? b);cases v<;>simp only [qa]at this<;>try (cases this;done)
 exact .int _ _
include ok in
theorem As{t:Bool}(mu:Mu)(c:E.und kt=some (.array n e))(hf:bQ E kt k=true)(h:cF k k'=some t)(w:World):(Op.equal kt k k').run P w=.ok t w:=by
 obtain⟨a,o,rfl,d,f,p,g,i⟩:=pu c hf;unfold cF at h;cases k'<;>simp only []at h<;>try (cases h;done)
 rename_i b;obtain⟨j,l,_,_⟩:=sc _ _ h;have m:fj E 40 kt (.agg a) (.agg b)=some t:=by show fj E (39+1) kt (.agg a) (.agg b)=some t;unfold fj;simp only [c,f];have:=elems_arr d g a.toList b.toList h i [] [] rfl;grind
 exact Bc ok 40 Op.maxDepth (by decide) m (aw.ints mu j) (aw.ints mu l) w
theorem BV{d:TypeDesc}(l:iO d=false)(m:E.und kt=some d)(hf:bQ E kt k=true){c:List (Value×Value×Nat)}{es':List MapEntry}(g:nH mu c es')
 (h:bI k c=some none) (i:Nat):Instr.findNow d k es' i=some none:=by
 induction c generalizing es' i with
 |nil=>rw [g.nil_left];rfl| cons e c o=>
   obtain⟨q,r,rfl,j,p⟩:=LR.cons_left g;obtain⟨a,b,n⟩:=e;simp only [bI]at h;cases f:cF k a with
   |none=>simp [f]at h| some t=>
     cases t with
     |true=>simp [f]at h| false=>simp only [f]at h;have:=th l m hf f;simp only []at j;simp only [Instr.findNow,j.1,this];exact o p h _
include ok in
theorem AO(j:E.und kt=some (.array n e))(hf:bQ E kt k=true){c:List (Value×Value×Nat)}{es':List MapEntry}(f:nH mu c es')
 (h:bI k c=some none) (i:Nat) (w:World):(Instr.findAsking kt k es' i).run P w=.ok none w:=by
 induction c generalizing es' i with
 |nil=>rw [f.nil_left];rfl| cons x c l=>
   obtain⟨q,r,rfl,g,o⟩:=LR.cons_left f;obtain⟨a,b,m⟩:=x;simp only [bI]at h;cases d:cF k a with
   |none=>simp [d]at h| some t=>
     cases t with
     |true=>simp [d]at h| false=>simp only [d]at h;simp only []at g;have p:=As ok mu j hf d w;simp only [Instr.findAsking,Sem.run_bind,g.1,p,Result.andThen_ok];simpa using l o h (i+1)
theorem wQ{d:TypeDesc}(a:iO d=true)(c:E.und kt=some d)(hf:bQ E kt k=true)(x:MapEntry)(b:List MapEntry)(i:Nat):Instr.findNow d k (x::b) i=none:=by
 cases d<;>simp only [iO]at a<;>try (cases a;done)
 rfl
include ok in
theorem oK{d:TypeDesc}(a:E.und kt=some d)(hf:bQ E kt k=true){c:List (Value×Value×Nat)}{es':List MapEntry}(e:nH mu c es')
 (h:bI k c=some none) (w:World):(Instr.findKey kt k es').run P w=.ok none w:=by
 unfold Instr.findKey;simp only [Sem.run_bind,bN ok a,Result.andThen_ok];cases b:iO d with
 |false=>rw [BV b a hf e h 0];rfl| true=>
   cases es' with
   |nil=>rfl| cons x es'=>
     rw [wQ b a hf];cases d<;>simp only [iO]at b<;>try (cases b;done)
     exact AO ok a hf e h 0 w
include ok in
theorem find_some{d:TypeDesc}(y:E.und kt=some d)(hf:bQ E kt k=true){o:List (Value×Value×Nat)}{es':List MapEntry}(A:nH mu o es')
   (h:bI k o=some (some (v,n))) (w:World) (i:Nat):
 ∃ j g,es'[j]? =some g/\(iO d=false->Instr.findNow d k es' i=some (some (i+j,g.val)))/\(iO d=true->(Instr.findAsking kt k es' i).run P w=.ok (some (i+j,g.val)) w)/\aw mu v g.val/\g.born=n/\cF k g.key=some true/\
   (∀p c,aw mu p c->nH mu (jS k p o) (es'.set j {g with key:=k,val:=c}))/\nH mu (mr k o) (es'.eraseIdx j):=by
 have ask:iO d=true-> ∀{a:Value} {t:Bool},cF k a=some t->(Op.equal kt k a).run P w=.ok t w:=fun z a t f=>by
  cases d<;>simp only [iO]at z<;>try (cases z;done)
  exact As ok mu y hf f w
 induction o generalizing es' i with
 |nil=>simp [bI]at h| cons e o B=>
   obtain⟨g,r,rfl,l,s⟩:=LR.cons_left A;obtain⟨a,b,m⟩:=e;simp only [bI]at h;simp only []at l;cases f:cF k a with
   |none=>simp [f]at h| some t=>
     cases t with
     | true=>
       simp only [f]at h;cases h;have u:vf k=true:=fits_ok hf;refine⟨0,g,rfl,fun q=>by simp [Instr.findNow,l.1,th q y hf f],fun q=>by simp [Instr.findAsking,Sem.run_bind,l.1,ask q f],l.2.2.1,l.2.2.2,by grind,?_,?_⟩
       . intro p c x;simp only [jS,f,List.set_cons_zero];exact LR.cons ⟨rfl,u,x,l.2.2.2⟩ s
       . simp only [mr,f,List.eraseIdx_zero];exact s
     | false=>
       simp only [f]at h;obtain⟨j,C,D,L,F,G,H,I,J,K⟩:=B s h (i+1);refine⟨j+1,C,by simpa using D,fun q=>?_,fun q=>?_,G,H,I,?_,?_⟩
       . grind[Instr.findNow,th,hf]
       . grind[Instr.findAsking,Sem.run_bind,ask,Result.andThen_ok]
       . intro p c x;simp only [jS,f,List.set_cons_succ];exact LR.cons l (J p c x)
       . simp only [mr,f,List.eraseIdx_cons_succ];exact LR.cons l K
include ok in
theorem oD{d:TypeDesc}(f:E.und kt=some d)(hf:bQ E kt k=true){e:List (Value×Value×Nat)}{es':List MapEntry}(o:nH mu e es')
   (h:bI k e=some (some (v,n))) (w:World):
 ∃ j a,es'[j]? =some a/\(Instr.findKey kt k es').run P w=.ok (some (j,a.val)) w/\aw mu v a.val/\a.born=n/\cF k a.key=some true/\
   (∀i b,aw mu i b->nH mu (jS k i e) (es'.set j {a with key:=k,val:=b}))/\nH mu (mr k e) (es'.eraseIdx j):=by
 obtain⟨j,a,l,m,c,p,q,r,s,t⟩:=find_some ok f hf o h w 0;refine⟨j,a,l,?_,p,q,r,s,t⟩;unfold Instr.findKey;simp only [Sem.run_bind,bN ok f,Result.andThen_ok];rw [Xs]at m c;cases g:iO d with
 |false=>rw [m g];rfl| true=>
   cases es' with
   |nil=>simp at l|cons x es'=>rw [wQ g f hf];exact c g
theorem EK(o:aw mu v v'){c es2:List (Value×Value×Nat)}{es':List MapEntry}(p:nH mu c es')(h:jy n v c=some es2):
 ∃j g,es'.findIdx? (fun e=>(e.born:Int)==(n:Int))=some j/\es'[j]? =some g/\nH mu es2 (es'.set j {g with val:=v'}):=by
 induction c generalizing es' es2 with
 |nil=>simp [jy]at h| cons e c q=>
   obtain⟨g,r,rfl,d,k⟩:=LR.cons_left p;obtain⟨a,b,m⟩:=e;simp only [jy,cS]at h;simp only []at d;by_cases f:m=n
   . subst f;simp only [decide_true,cond_true]at h;cases h;refine⟨0,g,?_,rfl,?_⟩
     . grind
     . exact LR.cons ⟨d.1,d.2.1,o,d.2.2.2⟩ k
   . simp only [f,decide_false,cond_false]at h;cases i:jy n v c with
     |none=>simp [i]at h| some l=>
       simp only [i]at h;cases h;obtain⟨j,s,w,t,u⟩:=q k i;refine⟨j+1,s,?_,by simpa using t,?_⟩
       . grind
       . simp only [List.set_cons_succ];exact LR.cons d u
end
def oP(mu:Mu)(d e:Deferred):Prop:=match d.target with
 | .fn (.func f) g=> ∃a,e.target=.fn (.func f) a/\VL mu g.toList a.toList/\VL mu d.args.toList e.args.toList| .collected b=> ∃c,e.target=.collected c/\dW mu b c|_=>False
theorem sY{a:Type}{l:List a}{j:Nat}{e:a}(h:l[j]? =some e)(f:a->a):l.modify j f=l.set j (f e):=by apply List.ext_getElem?;grind
section
variable{E:Env}{P:Program}(ok:EOk E P)
def Res(P:Program)(mu:Mu)(h:Hp)(w:World)(s:Sem Next)(h':Hp):dM->Prop
 | .val v=> ∃j e i,s.run P w=.ok (.value j) i/\bg e h' i/\Ext mu h w e h' i/\aw e v j| .skip=> ∃e i,s.run P w=.ok .skip i/\bg e h' i/\Ext mu h w e h' i| .call f g=>h'=h/\ ∃a,s.run P w=(callFunc f a).run P w/\VL mu g a.toList| .yield b g=>h'=h/\ ∃c a,s.run P w=(Instr.yield c a).run P w/\dW mu b c/\VL mu g a.toList| .recov=>h'=h/\s.run P w=.ok .recover w| .defer d=>h'=h/\ ∃k,s.run P w=.ok (.defer k) w/\oP mu d k| .panic v=>h'=h/\ ∃j,s.run P w=.halt (.panic j) w/\aw mu v j
theorem BL{r:Nat}{o:Obj}(h: ∃q,w.heap[r]? =some q):WSet w {w with heap:=w.heap.setIfInBounds r o} r o:=by obtain⟨q,a⟩:=h;have b:r<w.heap.size:=(Array.getElem?_eq_some_iff.1 a).1;refine⟨by simp,by simp [b],fun j c=>?_,rfl,rfl,rfl⟩;grind
theorem yJ(f:bg mu h w)(d:dW mu b c){g:List (Value×Value×Nat)}(k:h.get b=some (.map g a)):
 ∃top es',mu b=.blk c 0 top/\w.heap[c]? =some (.map es' a)/\nH mu g es'.toList:=by
 unfold dW at d;cases e:mu b with
 |none=>grind|dead=>have:=f.dead _ e;grind| blk m i top=>
   rw [e]at d;obtain⟨rfl,rfl⟩:=d;obtain⟨y,o,j,n,l⟩:=f.blk _ c 0 top e;rw [k]at j;cases j;obtain⟨_,es',rfl,p⟩:=l;grind
theorem oX(e:bg mu h w){top:Nat}{f es2:List (Value×Value×Nat)}{clock2:Nat}(j:h.get b=some (.map f a))(g:mu b=.blk c 0 top)
 {es' es2':Array MapEntry} (d:w.heap[c]? =some (.map es' a)) (i:nH mu es2 es2'.toList):
 (setObj c (.map es2' clock2)).run P w=.ok () {w with heap:=w.heap.setIfInBounds c (.map es2' clock2)}/\
 bg mu (h.put b (.map es2 clock2)) {w with heap:=w.heap.setIfInBounds c (.map es2' clock2)}/\Ext mu h w mu (h.put b (.map es2 clock2)) {w with heap:=w.heap.setIfInBounds c (.map es2' clock2)}:=by
 refine⟨by simp [setObj,Sem.run,d],?_⟩;exact wX e g (by grind) (BL ⟨_,d⟩) ⟨rfl,es2',rfl,i⟩
theorem kX{b:Array MapEntry}(d:w.heap[c]? =some (.map b a)):(getObj c).run P w=.ok (.map b a) w:=by simp [getObj,Sem.run,d]
include ok
theorem Am(o:bg mu h w)(c:fV E h t x=some v)(p:aw mu x x'):
 ∃v',(Instr.loadAt t x').run P w=.ok v' w/\aw mu v v':=by
 unfold fV at c;cases p<;>(try simp only []at c)<;>try (cases c;done)
 rename_i a q e;unfold Instr.loadAt;simp only [Instr.sureAddr,Sem.run_bind,Sem.run_pure,Result.andThen_ok];unfold loadVar;cases g:E.agg t with
 |none=>simp [g]at c| some b=>
   simp only [Sem.run_bind,vj ok g,Result.andThen_ok];cases b with
   | true=>
     simp only [g]at c;cases j:E.sz t with
     |none=>simp [j]at c| some n=>
       simp only [j]at c;cases d:h.load a.block a.off n with
       |none=>simp [d]at c| some l=>
         simp only [d]at c;cases c;obtain⟨k,i,f,m⟩:=xq o e d;have:=run_loadCells_list (P:=P) w q i m;have s:i.length=n:=(by rw [<-f.1];exact k);rw [s]at this;exact⟨.agg i.toArray,by simp [eg ok j,this],.agg f.1 f.2⟩
   | false=>
     simp only [g]at c;cases d:h.load a.block a.off 1 with
     |none=>simp [d]at c| some l=>
       simp only [d]at c;obtain⟨k,i,f,m⟩:=xq o e d
       match l,k with
       | [u],_=>
         simp only []at c;cases c;obtain⟨y,r,rfl,z,A⟩:=f.cons_left;have:=m 0 y (by simp);simp_all[Addr.add]
theorem EI(k:bg mu h w)(c:jV E h t x v=some h')(l:aw mu x x')(m:aw mu v v'):
 ∃w',(Instr.storeAt t x' v').run P w=.ok () w'/\bg mu h' w'/\Ext mu h w mu h' w':=by
 unfold jV at c;cases l<;>(try simp only []at c)<;>try (cases c;done)
 rename_i a r e;cases f:E.sz t with
 |none=>simp [f]at c| some n=>
   simp only [f]at c;have g: ∀y,v≠ .chan y:=(by grind);have b:(bif zM (ae v).length n then h.store a.block a.off (ae v)else none)=some h':=(by grind);rw [cS]at b;by_cases j:(ae v).length=n
   . simp only [j,decide_true,cond_true]at b;have d:=m.cells g;obtain⟨w',o,p,q⟩:=rL (P:=P) k e b d;refine⟨w',?_,p,q⟩;have i:v'.cells.size=n:=(by rw [<-j];exact d.1.symm);simp [Instr.storeAt,Instr.sureAddr,storeVar,eg ok f,i,o]
   grind
omit ok in
theorem uD    (hf:bQ E kt k=true) (e:aw mu k k'):k'=k/\vf k=true/\ ∃kd,E.und kt=some kd:=by
 unfold bQ at hf;cases a:E.und kt with
 |none=>simp [a]at hf| some kd=>
   cases b:iO kd with
   | true=>
     cases kd<;>simp only [iO]at b<;>try (cases b;done)
     have c:=fits_ok (E:=E) (kt:=kt) (k:=k) (by unfold bQ;exact hf);obtain⟨h,kd,rfl,_,_,_,_,j⟩:=pu a (by unfold bQ;exact hf);refine⟨?_,c,_,rfl⟩;cases e with
     | @agg _ f l m=>
       have:h.toList=f.toList:=(by refine List.ext_getElem l fun i g d=>?_;obtain⟨x,n⟩:=j _ (List.getElem_mem g);have:=m i _ _ (Xg g) (Xg d);rw [n]at this⊢;generalize f.toList[i]=u at this;cases this;rfl);simp_all
   | false=>
     simp only [a]at hf;cases kd<;>simp only []at hf<;>(try (cases hf;done))<;>(try (cases b;done))<;>(cases e<;>simp only []at hf<;>(try (cases hf;done))<;>exact⟨rfl,rfl,_,rfl⟩)
theorem C0    (M:bg mu h w)  {H:Value} {q:Bool} (a:dw E h t m k q=some v) (N:aw mu m H) (O:aw mu k k'):
 ∃v',(Instr.lookup t H k' q).run P w=.ok v' w/\aw mu v v':=by
 unfold dw at a;cases o:E.und t with
 |none=>simp [o]at a| some d=>
   simp only [o]at a;cases d<;>simp only []at a<;>try (cases a;done)
   rename_i I s;cases hf:bQ E I k with
   |false=>simp [hf]at a| true=>
     simp only [hf,cond_true]at a;have A:k'=k:=(uD (E:=E) hf O).1;subst A;have B: ∀{z y:Value},aw mu z y-> ∀b,aw mu (bif q then .tuple #[z,.bool b]else z) (if q then .tuple #[y,.bool b]else y):=by
      intro z y i b;cases q with
      |false=>exact i| true=>have:VL mu [z,.bool b] [y,.bool b]:=LR.cons i (LR.cons (.bool b) LR.nil);exact .tuple this.1 this.2
     obtain⟨J,g⟩: ∃J,E.und I=some J:=(by unfold bQ at hf;grind);have f:(match E.zeroV s with|none=>none|some z=>some (bif q then .tuple #[z,.bool false]else z))=some v->
      ∃z,(zeroValue s).run P w=.ok z w/\aw mu v (if q then .tuple #[z,.bool false]else z):=by
      intro i;cases l:E.zeroV s with
      |none=>simp [l]at i| some z=>simp only [l]at i;grind[rH]
     unfold Instr.lookup;simp only [Sem.run_bind,bN ok o,Result.andThen_ok];cases N<;>(try simp only []at a)<;>try (cases a;done)
     . obtain⟨z,C,D⟩:=f a;refine⟨_,?_,D⟩;simp [jX ok hf,Instr.findKey,bN ok g,Instr.findNow,C]
     . rename_i b c Q;cases F:h.get b with
       |none=>simp [F]at a| some x=>
         simp only [F]at a;cases x<;>simp only []at a<;>try (cases a;done)
         rename_i R G;obtain⟨S,T,W,K,L⟩:=yJ M Q F;cases e:bI k' R with
         |none=>simp [e]at a| some r=>
           cases r with
           | none=>
             simp only [e]at a;obtain⟨z,C,D⟩:=f a;refine⟨_,?_,D⟩;simp [jX ok hf,kX K,oK ok g hf L e,C]
           | some p=>
             obtain⟨u,n⟩:=p;simp only [e]at a;cases a;obtain⟨j,X,Y,U,V,_⟩:=oD ok g hf L e w;refine⟨_,?_,B V true⟩;simp [jX ok hf,kX K,U]
omit ok in
theorem ut(l:bg mu h w){i:Value}{r:Nat}{f:List (Value×Value×Nat)}{el:TypeId}(e:kP E h t m k=some (r,f,a,el))
 (n:aw mu m i) (o:aw mu k k'): ∃kt kd c top es',E.und t=some (.map kt el)/\E.und kt=some kd/\bQ E kt k=true/\k'=k/\vf k=true/\i=.map (some c)/\h.get r=some (.map f a)/\
  mu r=.blk c 0 top/\w.heap[c]? =some (.map es' a)/\nH mu f es'.toList:=by
 unfold kP at e;cases j:E.und t with
 |none=>simp [j]at e| some d=>
   simp only [j]at e;cases d<;>simp only []at e<;>try (cases e;done)
   rename_i kt p;cases hf:bQ E kt k with
   |false=>simp [hf]at e| true=>
     simp only [hf,cond_true]at e;obtain⟨s,u,kd,v⟩:=uD (E:=E) hf o;cases n<;>(try simp only []at e)<;>try (cases e;done)
     rename_i b c q;cases g:h.get b with
     |none=>simp [g]at e| some x=>
       simp only [g]at e;cases x<;>simp only []at e<;>try (cases e;done)
       cases e;obtain⟨top,es',y,z,A⟩:=yJ l q g;grind
theorem xW    (g:bg mu h w)   (d:d6 E h t m k v=some h') (A:aw mu m s) (B:aw mu k k') (C:aw mu v v'):
 ∃w',(Instr.mapUpdate t s k' v').run P w=.ok () w'/\bg mu h' w'/\Ext mu h w mu h' w':=by
 unfold d6 at d;cases i:kP E h t m k with
 |none=>simp [i]at d| some q=>
   obtain⟨r,l,a,L⟩:=q;simp only [i]at d;obtain⟨M,N,c,D,f,F,x,o,rfl,e5,rfl,y,e8,e9,e10⟩:=ut g i A B;unfold Instr.mapUpdate;simp only [Sem.run_bind,bN ok F,Result.andThen_ok,kX e9,jX ok o];cases b:bI k' l with
   |none=>simp [b]at d| some p=>
     cases p with
     | none=>
       simp only [b]at d;cases d;have G:=oK ok x o e10 b w;obtain⟨H,I,J⟩:=oX (P:=P) g y e8 e9 (es2:=l++[(k',v,a)]) (es2':=f.push {key:=k',val:=v',born:=a}) (clock2:=a+1) (by
        simp only [Array.toList_push];exact LR.append e10 (LR.cons ⟨rfl,e5,C,rfl⟩ LR.nil))
       simp_all
     | some u=>
       obtain⟨u,n⟩:=u;simp only [b]at d;cases d;obtain⟨j,z,O,Q,R,S,T,U,V⟩:=oD ok x o e10 b w;have W:f[j]? =some z:=(by grind);have K:(Instr.keyThatStays z.key k').run P w=.ok k' w:=(by simp_all[Instr.keyThatStays,Instr.sameBits,rN,yf]);obtain⟨H,I,J⟩:=oX (P:=P) g y e8 e9 (es2:=jS k' v l) (es2':=f.modify j fun e=>{e with key:=k',val:=v'}) (clock2:=a) (by
        grind[Xk,sY])
       simp_all
end
section
variable{E:Env}{P:Program}(ok:EOk E P)
include ok
theorem Ek    (g:bg mu h w)  {ts:Array TypeId} {xs:Array Value} {y:Value} (C:ts[0]? =some t) (i:xs[0]? =some y) (o:xs[1]? =some k')
 (d:oq E h t m k=some h') (D:aw mu m y) (F:aw mu k k'):
 ∃w',(Builtin.delete_ ts ty xs).run P w=.ok (.tuple #[]) w'/\bg mu h' w'/\Ext mu h w mu h' w':=by
 unfold oq at d;cases s:kP E h t m k with
 |none=>simp [s]at d| some q=>
   obtain⟨r,e,a,M⟩:=q;simp only [s]at d;obtain⟨N,O,c,G,f,H,z,v,rfl,e5,rfl,A,e8,e9,e10⟩:=ut g s D F;unfold Builtin.delete_;simp only [C,i,o,Sem.run_bind,bN ok H,Result.andThen_ok,kX e9,jX ok v];cases b:bI k' e with
   |none=>simp [b]at d| some p=>
     simp only [b]at d;cases d;cases p with
     | none=>
       have I:=oK ok z v e10 b w;have B:mr k' e=e:=by
        have: ∀l:List (Value×Value×Nat),bI k' l=some none->mr k' l=l:=by
         intro l
         induction l with
         |nil=>intro _;rfl| cons x l Q=>grind[bI,mr,cF]
        grind
       obtain⟨J,K,L⟩:=oX (P:=P) g A e8 e9 (es2:=mr k' e) (es2':=f) (clock2:=a) (by grind);simp_all
     | some u=>
       obtain⟨u,n⟩:=u;obtain⟨j,R,S,T,U,V,W,X,Y⟩:=oD ok z v e10 b w;obtain⟨J,K,L⟩:=oX (P:=P) g A e8 e9 (es2:=mr k' e) (es2':=f.eraseIdxIfInBounds j) (clock2:=a) (by
        simp_all)
       simp_all
theorem DK    (i:bg mu h w)  {G:Value} (d:kY E h t m k=some (h',v)) (L:aw mu m G) (M:aw mu k k'):
 ∃v' w',(Instr.mapEntry t G k').run P w=.ok v' w'/\bg mu h' w'/\Ext mu h w mu h' w'/\aw mu v v':=by
 have l: ∀{z y:Value},aw mu z y-> ∀n:Nat,aw mu (.tuple #[z,.int .i64 (.ofNat n)]) (.tuple #[y,goInt (n:Int)]):=by intro z y g n;have:VL mu [z,.int .i64 (.ofNat n)] [y,goInt (n:Int)]:=LR.cons g (LR.cons (.int _ _) LR.nil);exact .tuple this.1 this.2
 unfold kY at d;cases o:kP E h t m k with
 |none=>simp [o]at d| some q =>
   obtain⟨r,s,a,N⟩:=q;simp only [o]at d;obtain⟨U,V,c,O,f,Q,H,x,rfl,e5,rfl,I,e8,e9,e10⟩:=ut i o L M;unfold Instr.mapEntry;simp only [Sem.run_bind,bN ok Q,Result.andThen_ok,kX e9,jX ok x];cases b:bI k' s with
   |none=>simp [b]at d| some p=>
     cases p with
     | none=>
       simp only [b]at d;cases g:E.zeroV N with
       |none=>simp [g]at d| some z=>
         simp only [g]at d;cases d;obtain⟨R,J⟩:=rH ok g w mu;have A:=oK ok H x e10 b w;obtain⟨B,C,D⟩:=oX (P:=P) i I e8 e9 (es2:=s++[(k',z,a)]) (es2':=f.push {key:=k',val:=z,born:=a}) (clock2:=a+1) (by
          simp only [Array.toList_push];exact LR.append e10 (LR.cons ⟨rfl,e5,J,rfl⟩ LR.nil))
         exact⟨_,_,by simp [A,R,B],C,D,l J a⟩
     | some u=>
       obtain⟨u,n⟩:=u;simp only [b]at d;cases d;obtain⟨j,K,W,S,X,Y,Z,f6,f7⟩:=oD ok H x e10 b w;have T:f[j]? =some K:=(by grind);have F:(Instr.keyThatStays K.key k').run P w=.ok k' w:=(by simp_all[Instr.keyThatStays,Instr.sameBits,rN,yf]);obtain⟨B,C,D⟩:=oX (P:=P) i I e8 e9 (es2:=jS k' u s) (es2':=f.modify j fun e=>{e with key:=k'}) (clock2:=a) (by
        grind[Xk,sY])
       refine⟨_,_,by simp [S,T,F,B];rfl,C,D,?_⟩;grind
omit ok in
theorem Ce    (r:bg mu h w)  {u:Value} (a:m8 h m s v=some h') (y:aw mu m u) (z:aw mu s s') (A:aw mu v v'):
 ∃w',(Instr.entryStore t u s' v').run P w=.ok () w'/\bg mu h' w'/\Ext mu h w mu h' w':=by
 unfold m8 at a;cases y<;>(try simp only []at a)<;>try (cases a;done)
 rename_i b c B;cases o:h.get b with
 |none=>simp [o]at a| some x=>
   simp only [o]at a;cases x<;>(try simp only []at a)<;>try (cases a;done)
   rename_i C d;obtain⟨D,f,e8,e9,e10⟩:=yJ r B o;cases z<;>(try simp only []at a)<;>try (cases a;done)
   rename_i k i;cases p:jf i with
   |none=>simp [p]at a| some n=>
     have:=rq p;subst this;simp only [p]at a;cases g:jy n v C with
     |none=>simp [g]at a| some es2=>
       simp only [g]at a;cases a;obtain⟨j,J,F,K,L⟩:=EK A e10 g;obtain⟨G,H,I⟩:=oX (P:=P) r o e8 e9 (es2:=es2) (es2':=f.modify j fun e=>{e with val:=v'}) (clock2:=d) (by
        grind[Xk,sY])
       have q:f.findIdx? (fun e=>(e.born:Int)==(n:Int))=some j:=(by obtain⟨l⟩:=f;simpa using F);exact⟨_,by simp [Instr.entryStore,kX e9,asInt,asIntOf,q,G],H,I⟩
omit ok in
theorem pJ(a:List Value)(n:Nat):(bH a n).length=n*a.length:=by
 induction n with
 |zero=>simp [bH]|succ n b=>simp [bH,b,Nat.succ_mul];omega
omit ok in
theorem Cc(b:List Value)(n i:Nat)(h:i<n*b.length):(bH b n)[i]? =b[i%b.length]? :=by
 induction n generalizing i with
 |zero=>simp at h| succ n d=>
   simp only [bH];by_cases c:i<b.length
   . rw [Xf c,Nat.mod_eq_of_lt c]
   . rw [Xe (by omega),d _ (by grind)];rw [Nat.mod_eq_sub_mod (a:=i) (by omega)]
omit ok in
theorem zZ{z:Value}{a:List Value}(d:z.cells.toList=a)(j:a.all du=true)(c:Nat):
 VL mu (bH a c) ((Xo (c*a.length)).map (z.cells[· %z.cells.size]!)).toList:=by
 have e:z.cells.size=a.length:=by rw [<-d];rfl
 refine⟨by simp [pJ],fun i v k f g=>?_⟩;have h:i<c*a.length:=by grind
 rw [Cc _ _ _ h]at f;have b:0<a.length:=by grind
 have l:i%a.length<a.length:=Nat.mod_lt _ b;grind[Xc,Array.toList_range,List.getElem?_range,List.getElem?_eq_some_iff,Xb,aw.const]
omit ok in
theorem Be(h:natV v=some n)(a:aw mu v v'): ∃k,v'=.int k (n:Int):=by
 unfold natV at h;cases a<;>(try simp only []at h)<;>try (cases h;done)
 rename_i k i;exact⟨k,by rw [rq h]⟩
omit ok in
theorem wrap_small(h:n<=70368744177664):IntKind.i64.wrap (n:Int)=n:=by rw [<-ji];show(bif Xp n 9223372036854775808 then _ else _)=_;grind[jk]
omit ok in
theorem iT(w:World)(o:Obj):WNew w {w with heap:=w.heap.push o} o:=⟨rfl,rfl,rfl,rfl⟩
omit ok in
theorem Ai(mu:Mu)(b c top n cap cap' k:Nat)(h:n<=cap)(a:cap<=cap')(d:cap'*k<=top):aw (upd mu b (.blk c 0 top)) (.slice (some ⟨b,0,some k⟩) n cap) (.slice (some ⟨c,0,none⟩) n cap'):=by refine .slice h ?_;simp_all[eB,upd_same,trivial]
omit ok in
theorem qA(mu:Mu)(b c top n cap:Nat)(h:n<=cap):aw (upd mu b (.blk c 0 top)) (.slice (some ⟨b,0,none⟩) n cap) (.slice (some ⟨c,0,none⟩) n cap):=by refine .slice h ?_;grind[eB,upd_same]
theorem zn    (D:bg mu h w)  {l l' c c':Value} (b:kK E h t l c=some (h',v)) (R:aw mu l l') (S:aw mu c c'):
 ∃v' r w',(Instr.makeSlice t l' c').run P w=.ok v' w'/\bg r h' w'/\Ext mu h w r h' w'/\aw r v v':=by
 unfold kK at b;cases F:E.und t with
 |none=>simp [F]at b| some d=>
   simp only [F]at b;cases d<;>(try simp only []at b)<;>try (cases b;done)
   rename_i e;cases G:natV l with
   |none=>simp [G]at b| some n=>
     cases N:natV c with
     |none=>grind| some m=>
       obtain⟨T,rfl⟩:=Be G R;obtain⟨U,rfl⟩:=Be N S;simp only [G,N]at b;cases A:E.ty e with
       |none=>simp [A]at b| some i =>
         simp only [A,fe]at b;by_cases s:n<=m/\m*(i.bytes+1)<=70368744177664
         . obtain ⟨B,V⟩:=s;simp only [B,V,decide_true,Xn,cond_true]at b;cases H:E.zero e with
           |none=>simp [H]at b| some I=>
             simp only [H,cS]at b;by_cases g:I.length=i.size
             . simp only [g,decide_true,cond_true]at b;obtain⟨z,C,W,z3,X⟩:=po ok H w;have J:m<=70368744177664:=(by grind);have K:n<=70368744177664:=(by omega);have Y: ¬((i.bytes:Int)*(m:Int)>2 ^48):=(by grind);have u:E.sz e=some i.size:=(by unfold Env.sz;rw [A]);have a:=zZ (mu:=mu) W X m;obtain⟨k,L⟩: ∃k,k=(Xo (m*I.length)).map (z.cells[· %z.cells.size]!):=⟨_,rfl⟩;rw [<-L]at a;have x:(Instr.makeSlice t (.int T n) (.int U m)).run P w=.ok (.slice (some ⟨w.heap.size,0,none⟩) n m) {w with heap:=w.heap.push (.cells k e)}:=by
                unfold Instr.makeSlice;simp only [Sem.run_bind,bN ok F,Result.andThen_ok,asInt,asIntOf,Sem.run_pure,pF ok A,wrap_small J,wrap_small K];have c1:(decide ((m:Int)<0)||decide ((i.bytes:Int)*(m:Int)>2 ^48))=false:=(by grind);have Z:((decide ((m:Int)<0)||decide ((i.bytes:Int)*(m:Int)>2 ^48))||decide ((n:Int)<0)||decide ((n:Int)>(m:Int)))=false:=(by grind);rw [if_neg (by rw [Z];simp)];simp only [Sem.run_bind,run_askRoom,Result.andThen_ok,eg ok u,Int.toNat_natCast];by_cases y:m*i.size=0
                . have:k=#[]:=(by grind);rw [if_pos y];simp [newRow,y,this];grind
                simp_all[if_neg,newRow]
               rw [x];have O:k.size=m*i.size:=by grind
               match I,b,a,g with
               | [],b,a,g=>
                 cases b;have f:(bH [] m).length=m*i.size:=(by rw [pJ,<-g]);obtain⟨o,p⟩:=qM (w':={w with heap:=w.heap.push (.cells k e)}) D (l:=bH [] m) (l':=k) (el:=e) a (iT w _) (t:=Tr.ofList (bH [] m)) (Tr.sized_ofList _) (Tr.get_ofList _);rw [f]at o p;exact⟨_,_,_,rfl,o,p,qA mu h.n w.heap.size k.size n m B⟩
               | [q],b,a,g=>
                 cases b;have f:(bH [q] m).length=m:=(by rw [pJ];simp);obtain⟨o,p⟩:=qM (w':={w with heap:=w.heap.push (.cells k e)}) D (l:=bH [q] m) (l':=k) (el:=e) a (iT w _) (t:=Tr.blank q m m) (by simp_all[Tr.sized_blank,Xi]) (by
                  intro j;rw [Tr.get_blank q m m (Xi _)];by_cases Q:j<m
                  . rw [if_pos Q,Cc _ _ _ (by simpa using Q)];grind
                  grind)
                 rw [f]at o p;exact⟨_,_,_,rfl,o,p,qA mu h.n w.heap.size k.size n m B⟩
               | q::C::M,b,a,g=>
                 cases b;have f:(bH (q::C::M) m).length=m*i.size:=(by rw [pJ,<-g]);obtain⟨o,p⟩:=qM (w':={w with heap:=w.heap.push (.cells k e)}) D (l:=bH (q::C::M) m) (l':=k) (el:=e) a (iT w _) (t:=Tr.ofList (bH (q::C::M) m)) (Tr.sized_ofList _) (Tr.get_ofList _);rw [f]at o p;exact⟨_,_,_,rfl,o,p,qA mu h.n w.heap.size k.size n m B⟩
             grind
         grind
theorem ye    (B:bg mu h w)   {b a:List (Nat×Value)}  (c:lq E h t n b=some (h',v)) (hq:PL mu b a):
 ∃v' f w',(Instr.buildSlice t n a.toArray).run P w=.ok v' w'/\bg f h' w'/\Ext mu h w f h' w'/\aw f v v':=by
 unfold lq at c;cases o:E.und t with
 |none=>simp [o]at c| some d=>
   simp only [o]at c;cases d<;>(try simp only []at c)<;>try (cases c;done)
   rename_i e;cases p:E.sz e with
   |none=>simp [p]at c| some k=>
     simp only [p,fe]at c;by_cases C:n*k<=16777216
     . simp only [C,decide_true,cond_true]at c;cases s:E.zero e with
       |none=>simp [s]at c| some u =>
         simp only [s,cS]at c;by_cases x:u.length=k
         . simp only [x,decide_true,cond_true]at c;cases hf:lO (fun i=>some (i*k,k)) (bH u n) b with
           |none=>simp [hf]at c| some A=>
             simp only [hf]at c;cases c;obtain⟨z,M,D,N,F⟩:=po ok s w;have g:=zZ (mu:=mu) D F n;obtain⟨m,G,H⟩:=uC (place':=fun i=>some (i*k,k)) (fun i r I=>I) hf g hq;have j:(Instr.buildSlice t n a.toArray).run P w=.ok (.slice (some ⟨w.heap.size,0,none⟩) n n) {w with heap:=w.heap.push (.cells m e)}:=by
              unfold Instr.buildSlice;simp only [Sem.run_bind,bN ok o,Result.andThen_ok,eg ok p];rw [if_neg (by omega)];by_cases y:n*k=0
              . have J: ∀q:Array Value,(Xo (n*k)).map (q[· %q.size]!)=(Xo (n*u.length)).map (z.cells[· %z.cells.size]!):=(by grind);rw [if_pos y];simp only [Sem.run_bind,Sem.run_pure,Result.andThen_ok];rw [J,G];simp [newRow]
              simp_all[if_neg,Sem.run_bind,Result.andThen_ok,Sem.run_pure,newRow]
             rw [j];obtain⟨K,L⟩:=qM (w':={w with heap:=w.heap.push (.cells m e)}) B (l:=A) (l':=m) (el:=e) H (iT w _) (t:=Tr.ofList A) (Tr.sized_ofList _) (Tr.get_ofList _);exact⟨_,_,_,rfl,K,L,qA mu h.n w.heap.size m.size n n (Xi _)⟩
         grind
     grind
end
section
variable{E:Env}{P:Program}(ok:EOk E P)
theorem CS{b:Tr Value}{off m:Nat}{new:List Value}{t2:Tr Value}{s2:Nat}(c:b.Sized a)(h:kZ b a off m new=some (t2,s2)):
 off+m<=a/\s2=m+new.length/\t2.Sized s2/\(∀i,i<m->t2.get i=b.get (off+i))/\ ∀i,m<=i->t2.get i=new[i-m]? :=by
 unfold kZ at h;rw [cS,cS]at h;by_cases e:off=0/\m=a
 . obtain⟨rfl,rfl⟩:=e;simp only [decide_true,Xn,cond_true]at h;cases h;refine⟨by omega,rfl,Tr.sized_pushAll _ c,fun i d=>?_,fun i d=>?_⟩
   . rw [Tr.get_pushAll _ _ _ c,if_pos d,Xs]
   simp_all[Tr.get_pushAll,if_neg]
 . have:(decide (off=0)&&decide (m=a))=false:=(by grind);rw [this,fe]at h;simp only [cond_false]at h;by_cases hle:off+m<=a
   . simp only [hle,decide_true,cond_true]at h;grind[Tr.slice_spec,List.length_append,Tr.sized_ofList,Tr.get_ofList,Xf,Xe]
   grind
theorem qG{a e:Addr}{cap:Nat}(b:eB mu a cap e cap')(i:cap≠0):fK mu a e:=by
 unfold eB at b;unfold fK;cases f:mu a.block with
 |none=>grind|dead=>trivial| blk c d h=>
   rw [f]at b;cases g:a.spot with
   |none=>grind| some q=>
     rw [g]at b;simp only []at b⊢;obtain⟨_,j,k,_,l⟩:=b;have:e.off=d+a.off:=(by omega);cases e;grind
theorem mH    (p:bg mu h w) {a e:Addr} {cap k:Nat} (q:len<=cap) (r:eB mu a cap e cap') {l:List Value} (b:h.load a.block a.off (len*k)=some l):
 l.length=len*k/\ ∃l',VL mu l l'/\ ∀c:World,c.heap=w.heap->(Builtin.firstCells k len (.slice (some e) len cap')).run P c=.ok l'.toArray c:=by
 by_cases s:cap=0
 . have :len=0:=(by omega);subst this;have u:l.length=0:=by
    unfold Hp.load at b;cases i:h.get a.block with
    |none=>simp [i]at b| some x=>
      simp only [i]at b;cases x<;>(try simp only []at b)<;>try (cases b;done)
      rename_i t v y z;rw [fe]at b;by_cases f:a.off+0*k<=v
      . simp only [f,decide_true,cond_true]at b;grind[Tr.slice_spec]
      grind
   have:l=[]:=(by grind);subst this;exact⟨by simp,[],LR.nil,fun c _=>by simp [Builtin.firstCells,loadCells,loadCellsFrom]⟩
 . have g:=qG r s;obtain⟨m,l',n,A⟩:=xq p g b;refine⟨m,l',n,fun c B=>?_⟩;have d: ∀(j:Nat) o,l'[j]? =some o->c.cell? (e.add j)=some o:=(by grind[World.cell?]);have:=run_loadCells_list (P:=P) c e l' d;rw [show l'.length=len*k by rw [<-n.1];exact m]at this;simp [Builtin.firstCells,this]
theorem Cn(m:bg mu h w){k:Nat}{new:List Value}(d:aK h k x=some (n,new))(o:aw mu x x'):
 new.length=n*k/\(∀c:World,(Builtin.lenOf x').run P c=.ok n c)/\ ∃new',VL mu new new'/\ ∀c:World,c.heap=w.heap->(Builtin.firstCells k n x').run P c=.ok new'.toArray c:=by
 unfold aK at d;cases o<;>(try simp only []at d)<;>try (cases d;done)
 . rename_i s;rw [cS]at d;by_cases p:k=1
   . subst p;simp only [decide_true,cond_true]at d;cases d;refine⟨by simp [aM],fun c=>rfl,(aM s).map fun b=>.int .u8 (.ofNat b.toNat),LR.mapSame _ fun b=>.int _ _,fun c _=>?_⟩;simp only [Builtin.firstCells,Sem.run_pure];congr 1;apply Xw;simp [aM]
   grind
 . cases d;exact⟨by simp,fun c=>rfl,[],LR.nil,fun c _=>rfl⟩
 . rename_i a y f q j g i;cases e:h.load a.block a.off (f*k)with
   |none=>simp [e]at d| some l=>
     simp only [e]at d;cases d;obtain⟨r,t,u,v⟩:=mH (P:=P) m g i e;exact⟨r,fun c=>rfl,t,u,v⟩
theorem hrel_move{w':World}(q:bg mu h w){base top base2:Nat}{o:Obj}{x:Blk}(u:mu b=.blk c base top)
 (v: ∀t z el,h.get b≠some (.cells t z el 0)) (G:WSet w w' c o) (M:ng (upd mu b .dead) x base2 top o):
 bg (upd (upd mu b .dead) h.n (.blk c base2 top)) ((h.put b .dead).new x) w'/\Ext mu h w (upd (upd mu b .dead) h.n (.blk c base2 top)) ((h.put b .dead).new x) w':=by
 obtain⟨k,j⟩:=qi q u v G;have N:=q.lt b (by rw [u];simp);have A:(h.put b .dead).n=h.n:=rfl;have hle:Le (upd mu b .dead) (upd (upd mu b .dead) h.n (.blk c base2 top)):=by intro e i;left;exact a9 _ _ (by have:=k.lt e i;omega)
 have n:=(h.put b .dead).get_new x k.sized;have B: ∀e d f,upd mu b .dead e≠ .blk c d f:=by
  intro e d f a;have p:e≠b:=by grind[upd_same]
  rw [a9 _ _ p]at a;exact p (q.inj e b c _ _ _ _ a u)
 refine⟨⟨Tr.sized_push x k.sized,?_,?_,?_,?_⟩,?_⟩
 . intro e l d f a;by_cases g:e=h.n
   . subst g;rw [upd_same]at a;cases a;exact⟨x,o,by grind,G.at_,M.mono hle⟩
   . rw [a9 _ _ g]at a;obtain⟨y,O,r,m,Q⟩:=k.blk e l d f a;exact⟨y,O,by grind,m,Q.mono hle⟩
 . intro e a;by_cases g:e=h.n
   . grind[upd_same]
   . rw [a9 _ _ g]at a;rw [n,A,if_neg g];exact k.dead e a
 . intro H I l C J s K r m;by_cases R:H=h.n
   . grind[upd_same,a9,absurd]
   . rw [a9 _ _ R]at r;by_cases S:I=h.n
     . grind[upd_same,absurd]
     . rw [a9 _ _ S]at m;exact k.inj H I l _ _ _ _ r m
 . intro e a;show e<h.n+1;by_cases g:e=h.n
   . omega
   . rw [a9 _ _ g]at a;have:=k.lt e a;omega
 . refine⟨by show h.n<=h.n+1;omega,?_,?_,j.lo,?_,j.frame,?_,j.wsize,j.os,j.tape,j.output,fun e r m=>by
    have T:e<h.n+1:=m;grind[upd_same]⟩
   . intro e i;rw [a9 _ _ (by omega)];exact j.old e i
   . intro e l d f i a;by_cases g:e=h.n
     . grind[upd_same,a9]
     . rw [a9 _ _ g]at a;exact absurd (k.lt e (by rw [a];simp)) (by rw [A];omega)
   . intro e i D;rw [n,A,if_neg (by omega)];exact j.same e i D
   . intro e l d f t z el a F;obtain⟨U,W,V⟩:=j.ro e l d f t z el a F;have L:=q.lt e (by rw [a];simp);exact⟨U,by grind,by rw [a9 _ _ (by omega)];exact V⟩
theorem Ep(h:c<n):Builtin.nextslicecap n c<=3*n:=by grind[Builtin.nextslicecap,Builtin.growBy]
end
theorem AD{cs:Array Value}{el:TypeId}{b:Nat×Nat}(o:Nat)(vs:List Value)(h:w.heap[c]? =some (.cells cs el b)):
 ∃a,WSet w (w.setCells c o vs) c (.cells a el b)/\a.toList=cg cs.toList o vs:=setCells_at c vs o w cs el b h
section
variable{E:Env}{P:Program}(ok:EOk E P)
include ok
omit ok in
theorem Ah(h:ez E t=some false): ∃d,E.und t=some d/\(match d with| .int _=>true|_=>false)=false:=by unfold ez at h;grind
theorem xz(s:bg mu h w){i:TypeInfo}{t:List Value}(y:E.zero e=some t)(A:t.length=i.size)
   {old' new':List Value} (B: ∀d:World,d.heap=w.heap->(Builtin.firstCells i.size len s').run P d=.ok old'.toArray d)
 (C: ∀d:World,d.heap=w.heap->(Builtin.firstCells i.size n x').run P d=.ok new'.toArray d) (D:old'.length=len*i.size) (F:new'.length=n*i.size)
 {t2:Tr Value} {s2:Nat} (G:t2.Sized s2) (H:s2=old'.length+new'.length) (u: ∀j v,t2.get j=some v-> ∃v',(old'++new')[j]? =some v'/\aw mu v v'):
 ∃ v' f w',((do
   let a<-choose (.appendCap (len+n) cap' e)
   askRoom (a*i.bytes)
   let l<-Builtin.firstCells i.size len s'
   let new<-Builtin.firstCells i.size n x'
   let rest:=Builtin.zeroCells (<-zeroValue e).cells (a-(len+n))
   pure (Value.slice (some (<-newRow e (l++new++rest))) (len+n) a):Sem Value)).run P w=.ok v' w'/\
   bg f (h.new (.cells t2 s2 e 1)) w'/\Ext mu h w f (h.new (.cells t2 s2 e 1)) w'/\aw f (.slice (some ⟨h.n,0,some i.size⟩) (len+n) (len+n)) v':=by
 obtain⟨z,I,O,Q,R⟩:=po ok y {w with drawn:=w.drawn+1};obtain⟨g,m⟩: ∃g,g=(Question.appendCap (len+n) cap' e).cut (w.tape w.drawn (.appendCap (len+n) cap' e)):=⟨_,rfl⟩;have J:len+n<=g:=by grind[Question.cut]
 have p:z.cells.size=i.size:=by grind
 obtain⟨rest,b⟩: ∃rest,rest=Builtin.zeroCells z.cells (g-(len+n)):=⟨_,rfl⟩;have q:rest.size=(g-(len+n))*i.size:=by rw [b];simp [Builtin.zeroCells,p]
 obtain⟨c,k⟩: ∃c,c=old'.toArray++new'.toArray++rest:=⟨_,rfl⟩;have K:c.size=g*i.size:=by rw [k];simp only [Array.size_append,List.size_toArray,D,F,q];rw [<-Xu,<-Xu];congr 1;omega
 have r:s2<=c.size:=by grind
 have L:bg mu h {w with drawn:=w.drawn+1}:=uX s rfl;obtain⟨M,N⟩:=pg (x:=.cells t2 s2 e 1) (base:=0) (top:=c.size) (o:=.cells c e) L (iT {w with drawn:=w.drawn+1} (.cells c e)) ⟨c,e,(0,0),rfl,rfl,by omega,G,by
  grind,by omega⟩
 refine⟨.slice (some ⟨w.heap.size,0,none⟩) (len+n) g,_,_,?_,M,(xI (w':={w with drawn:=w.drawn+1}) s rfl rfl rfl rfl).trans N,?_⟩
 . have hf:(Question.appendCap (len+n) cap' e).forced=false:=rfl;simp only [Sem.run_bind,run_choose,hf,Xa,if_false,Result.andThen_ok,run_askRoom,B {w with drawn:=w.drawn+1} rfl,C {w with drawn:=w.drawn+1} rfl,I,<-m,<-b,newRow,run_newObj,Sem.run_pure,<-k]
 simp_all[Ai,Xi]
theorem xU{ts:Array TypeId}{k:TypeId}{i:TypeInfo}{xs:Array Value}{base:Option Addr}(b:ts[0]? =some t)(c:ts[1]? =some k)(d:xs[0]? =some (.slice base len cap'))(f:xs[1]? =some x')
 (g:ez E k=some false) (l:E.und t=some (.slice e)) (m:E.ty e=some i) (o:(Builtin.lenOf x').run P w=.ok n w) (p:len+n<=cap'):
 (Builtin.append_ ts ty xs).run P w=((do
  let new<-Builtin.firstCells i.size n x'
  match base with
   |some a=>do storeCells (a.add (len*i.size)) new.toList;pure (Value.slice base (len+n) cap')
   |none=>pure (Value.slice base (len+n) cap'):Sem Value)).run P w:=by
 have h:E.sz e=some i.size:=by unfold Env.sz;rw [m]
 obtain⟨q,j,r⟩:=Ah g;unfold Builtin.append_;simp only [b,c,d,f,Sem.run_bind,bN ok l,Result.andThen_ok,eg ok h,bN ok j,Sem.run_pure];cases q<;>first
  |(simp at r;done)
  | (simp only [Xa,if_false,Sem.run_bind,o,Result.andThen_ok,Xq,if_true,if_pos p]
     cases base<;>rfl)
theorem sj{ts:Array TypeId}{l:TypeId}{i:TypeInfo}{xs:Array Value}{base:Option Addr}(b:ts[0]? =some t)(c:ts[1]? =some l)(d:xs[0]? =some (.slice base len cap'))(f:xs[1]? =some x')
 (g:ez E l=some false) (o:E.und t=some (.slice e)) (m:E.ty e=some i) (p:(Builtin.lenOf x').run P w=.ok n w) (x:0<i.bytes) (q: ¬len+n<=cap') (r: ¬Builtin.nextslicecap (len+n) cap'*i.bytes>2 ^48):
 (Builtin.append_ ts ty xs).run P w=((do
  let a<-choose (.appendCap (len+n) cap' e)
  askRoom (a*i.bytes)
  let h<-Builtin.firstCells i.size len (.slice base len cap')
  let new<-Builtin.firstCells i.size n x'
  let rest:=Builtin.zeroCells (<-zeroValue e).cells (a-(len+n))
  pure (Value.slice (some (<-newRow e (h++new++rest))) (len+n) a):Sem Value)).run P w:=by
 have j:E.sz e=some i.size:=by unfold Env.sz;rw [m]
 obtain⟨s,k,u⟩:=Ah g;have v: ¬(((len+n:Nat):Int)>IntKind.i64.max/\(False\/i.bytes=0)):=by grind
 unfold Builtin.append_;simp only [b,c,d,f,Sem.run_bind,bN ok o,Result.andThen_ok,eg ok j,bN ok k,Sem.run_pure];cases s<;>first
  |(simp at u;done)
  | (simp only [Xa,if_false,Sem.run_bind,p,Result.andThen_ok,Xq,if_true,if_neg q,pF ok m,if_neg v,if_neg r,run_choose,show(Question.appendCap (len+n) cap' e).forced=false from rfl]
     try rfl)
theorem CV    (B:bg mu h w) {ts:Array TypeId}  {xs:Array Value}  (G:xs[0]? =some s') (H:xs[1]? =some x')
 (f:dK E h ts.toList s x=some (h',v)) (hs:aw mu s s') (hx:aw mu x x'):
 ∃v' I w',(Builtin.append_ ts ty xs).run P w=.ok v' w'/\bg I h' w'/\Ext mu h w I h' w'/\aw I v v':=by
 unfold dK at f;cases J:ts.toList with
 |nil=>simp [J]at f| cons t a5 =>
   cases a5 with
   |nil=>simp [J]at f| cons tx bk =>
     have K:ts[0]? =some t:=(by rw [<-zO,J];rfl);have L:ts[1]? =some tx:=(by rw [<-zO,J];rfl);simp only [J]at f;cases m:ez E tx with
     |none=>simp [m]at f| some b =>
       cases b with
       |true=>simp [m]at f| false =>
         simp only [m]at f;unfold lH at f;cases X:E.und t with
         |none=>simp [X]at f| some d=>
           simp only [X]at f;cases d<;>(try simp only []at f)<;>try (cases f;done)
           rename_i e;cases Y:E.ty e with
           |none=>simp [Y]at f| some i=>
             simp only [Y]at f;have a6: ∃a len C,s=.slice a len C:=(by grind);obtain⟨a,len,C,rfl⟩:=a6;simp only []at f;cases T:aK h i.size x with
             |none=>grind| some q=>
               obtain⟨n,D⟩:=q;simp only [T]at f;obtain⟨l1,l2,new',F,l4⟩:=Cn (P:=P) B T hx;unfold gX at f;rw [fe,fe,jk]at f;have al: ∃r cap',s'=.slice r len cap'/\C<=cap'/\len<=C:=by
                cases hs with
                |nils=>grind|slice h1 O=>exact⟨some _,_,rfl,O.caps,h1⟩
               obtain⟨r,cap',rfl,bl,bm⟩:=al;by_cases A:len+n<=C
               . simp only [A,decide_true,cond_true]at f;rw [xU ok K L G H m X Y (l2 w) (by omega)];have hf:=l4 w rfl;cases hs with
                 | nils=>
                   simp only []at f;cases f;have ax:n=0:=(by omega);subst ax;exact⟨.slice none 0 0,mu,w,by simp [hf],B,Ext.refl mu h w B,.nils⟩
                 | slice h1 O=>
                   rename_i a r;simp only []at f;simp only [Sem.run_bind,hf,Result.andThen_ok];cases D with
                   | nil=>
                     simp only []at f;cases f;rw [F.nil_left];exact⟨.slice (some r) (len+n) cap',mu,w,by rfl,B,Ext.refl mu h w B,.slice A O⟩
                   | cons x0 xr=>
                     simp only []at f;have ax:n≠0:=(by grind);cases Z:h.store a.block (a.off+len*i.size) (x0::xr)with
                     |none=>simp [Z]at f| some M=>
                       simp only [Z]at f;cases f;have a7:=pT (qG O (by omega)) (len*i.size);obtain⟨w',g1,g2,g3⟩:=rL (P:=P) (a:=ig a (len*i.size)) B a7 Z F;exact⟨.slice (some r) (len+n) cap',mu,w',by simp [g1],g2,g3,.slice A O⟩
               . simp only [A,decide_false,cond_false]at f;by_cases hb:(len+n)*(i.bytes+1)<=70368744177664/\0<i.bytes
                 . simp only [hb.1, hb.2,decide_true,Xn,cond_true]at f;cases hz:E.zero e with
                   |none=>simp [hz]at f| some zs =>
                     simp only [hz,cS]at f;by_cases Q:zs.length=i.size
                     . simp only [Q, decide_true,cond_true]at f;have u: ∀c,c<len+n-> ¬Builtin.nextslicecap (len+n) c*i.bytes>2 ^48:=(by intro c hc;have:=Ep hc;have h3:Builtin.nextslicecap (len+n) c*i.bytes<=3*(len+n)*i.bytes:=Xr _ this;grind);unfold pV at f;cases hs with
                       | nils=>
                         simp only [cS,decide_true,cond_true]at f;cases f;rw [sj ok K L G H m X Y (l2 w) hb.2 (by omega) (u 0 (by omega))];have:=xz ok B (e:=e) (i:=i) hz Q (len:=0) (n:=n) (cap':=0) (s':=.slice none 0 0) (x':=x') (old':=[]) (new':=new') (fun w2 _=>rfl) l4 (by simp) (by rw [<-F.1];exact l1) (t2:=Tr.ofList D) (s2:=D.length) (Tr.sized_ofList _) (by rw [F.1];simp) (by
                          intro j v l;rw [Tr.get_ofList]at l;exact F.get l)
                         grind
                       | slice h1 O=>
                         rename_i a r;simp only []at f;cases hg:h.get a.block with
                         |none=>simp [hg]at f| some y=>
                           simp only [hg]at f;cases y<;>(try simp only []at f)<;>try (cases f;done)
                           rename_i tr sz el md;cases ad:kZ tr sz a.off (len*i.size) D with
                           |none=>simp [ad]at f| some p =>
                             obtain⟨t2,s2⟩:=p;simp only [ad]at f;have a8: ∃c g N cs R fz,mu a.block=.blk c g N/\w.heap[c]? =some (.cells cs R fz)/\CRel mu tr sz md g N cs fz:=by
                              unfold eB at O;cases hm:mu a.block with
                              |none=>grind|dead=>have:=B.dead _ hm;grind| blk c g N=>
                                obtain⟨y,o,k1,k2,k3⟩:=B.blk _ c g N hm;rw [hg]at k1;cases k1;obtain⟨cs,R,fz,rfl,k4⟩:=k3;grind
                             obtain⟨c,g,N,cs,R,fz,hm,hw,cr⟩:=a8;obtain⟨q1,q2,q3,q4,q5⟩:=CS cr.sized ad
                             -- the ay cells
                             obtain⟨ay,aL⟩:=Tr.slice_mk (t:=tr) (i:=a.off) (n:=len*i.size) (fun k hk=>by
                              obtain⟨v,l⟩:=Tr.get_some cr.sized (show a.off+k<sz by omega);rw [l];rfl)
                             have af:h.load a.block a.off (len*i.size)=some ay:=(by simp_all[Hp.load,fe,decide_true,cond_true]);obtain⟨o1,old',o2,o3⟩:=mH (P:=P) B h1 O af;have U: ∀j v,t2.get j=some v-> ∃v',(old'++new')[j]? =some v'/\aw mu v v':=by
                              intro j v l;by_cases S:j<len*i.size
                              . rw [q4 j S,(Tr.slice_spec aL).2 j S]at l;obtain⟨v',V,W⟩:=LR.get o2 l;grind
                              . rw [q5 j (by omega)]at l;obtain⟨v',V,W⟩:=LR.get F l;exact⟨v',by rw [Xe (by rw [<-o2.1,o1];omega),<-o2.1,o1];exact V,W⟩
                             have a0:s2=old'.length+new'.length:=(by rw [<-o2.1,<-F.1,o1];exact q2);cases ai:a.spot with
                             | none=>
                               simp only [ai]at f;cases f;have bn:cap'=C:=(by grind[eB]);rw [sj ok K L G H m X Y (l2 w) hb.2 (by omega) (u cap' (by omega))];exact xz ok B hz Q o3 l4 (by rw [<-o2.1];exact o1) (by rw [<-F.1];exact l1) q3 a0 U
                             | some k' =>
                               simp only [ai,cS]at f;by_cases hk:k'=i.size/\md≠0/\D.all mM=true
                               . obtain⟨rfl,ak,ba⟩:=hk;simp only [ak,ba,decide_true,decide_false,Xq,Xn,cond_true]at f;cases f;have a1: ∀t sz el,h.get a.block≠some (.cells t sz el 0):=(by grind);by_cases z:len+n<=cap'
                                 . -- it fits all the same
                                   rw [xU ok K L G H m X Y (l2 w) z];simp only [Sem.run_bind,l4 w rfl,Result.andThen_ok];have M:=O;unfold eB at M;rw [hm]at M;simp only [ai]at M;obtain⟨s1,bb,s3,s4,s5⟩:=M;have bo:(len+n)*i.size<=cap'*i.size:=Xr _ z;have be:len*i.size+n*i.size=(len+n)*i.size:=(Xu _ _ _).symm;have bp:new'.length=n*i.size:=(by rw [<-F.1];exact l1);have bf:=cr.whole;have a2: ∀v∈new',v.oneCell'=true:=(by intro v l;obtain⟨j,S⟩:=List.mem_iff_getElem?.1 l;have bc:j<D.length:=(by grind);have:=F.2 j _ v (Xg bc) S;refine this.flat ?_;grind);have a3:=run_storeCells_cells (P:=P) c (r.off+len*i.size) new' 0 w (fun j S=>by
                                    grind[World.cell?]) (fun j S=>by
                                    simp only [World.frozen?,hw];have:=cr.free ak (r.off+len*i.size+0+j) (by omega);grind) a2
                                   rw [Nat.add_zero]at a3;have bh:r.add (len*i.size)=⟨c,r.off+len*i.size,none⟩:=(by rw [oR _ _ s3,bb]);obtain⟨a4,ws,e2⟩:=AD (r.off+len*i.size) new' hw;have bd:a4.size=cs.size:=(by grind[se]);have hle:Le mu (upd mu a.block .dead):=(by intro b' _;grind[upd_same,a9]);obtain⟨g1,g2⟩:=hrel_move B (x:=.cells t2 s2 e 1) (base2:=r.off) hm a1 ws ⟨a4,R,fz,rfl,by omega,by omega,q3,by
                                    intro j v l;rw [<-zO,e2,Bv _ _ _ _ (show r.off+len*i.size+new'.length<=cs.toList.length by grind)];by_cases S:j<len*i.size
                                    . rw [if_neg (by omega)];rw [q4 j S]at l;obtain⟨v',V,W⟩:=cr.get _ _ l;have bi:r.off=g+a.off:=(by grind);exact⟨v',by grind,W.mono hle⟩
                                    . rw [q5 j (by omega)]at l;obtain⟨v',V,W⟩:=LR.get F l;have bq:j-len*i.size<new'.length:=(List.getElem?_eq_some_iff.1 V).1;rw [if_pos (by omega),show r.off+j-(r.off+len*i.size)=j-len*i.size by omega];exact⟨v',V,W.mono hle⟩,fun _=>by
                                    intro j S;exact cr.free ak j (by omega)⟩
                                   refine⟨.slice (some r) (len+n) cap',_,_,?_,g1,g2,.slice (Xi _) ?_⟩
                                   . simp_all
                                   grind[eB,upd_same]
                                 . rw [sj ok K L G H m X Y (l2 w) hb.2 z (u cap' (by omega))];have hle:Le mu (upd mu a.block .dead):=(by intro b' _;grind[upd_same,a9]);obtain⟨k1,k2⟩:=qi B hm a1 (w':=w) ⟨rfl,hw,fun _ _=>rfl,rfl,rfl,rfl⟩;obtain⟨v',I,w',g1,g2,g3,g4⟩:=xz ok k1 hz Q o3 l4 (by rw [<-o2.1];exact o1) (by rw [<-F.1];exact l1) q3 a0 (fun j v l=>by
                                    obtain⟨v',V,W⟩:=U j v l;exact⟨v',V,W.mono hle⟩)
                                   exact⟨v',I,w',g1,g2,k2.trans g3,g4⟩
                               grind
                     grind
                 grind
end
section
variable{E:Env}{P:Program}(ok:EOk E P)
include ok
omit ok in
theorem oe(a b:Nat):dR a b=Xh a b:=by unfold dR;rw [fe];grind
theorem copyV_run    (j:bg mu h w) {ts:Array TypeId}  {xs:Array Value}  (B:xs[0]? =some s') (C:xs[1]? =some x')
 (c:copyV E h ts.toList s x=some (h',v)) (D:aw mu s s') (W:aw mu x x'):
 ∃v' o w',(Builtin.copy_ ts ty xs).run P w=.ok v' w'/\bg o h' w'/\Ext mu h w o h' w'/\aw o v v':=by
 unfold copyV at c;cases p:ts.toList with
 |nil=>simp [p]at c| cons t X=>
   have F:ts[0]? =some t:=(by rw [<-zO,p];rfl);simp only [p]at c;cases G:E.und t with
   |none=>simp [G]at c| some d =>
     simp only [G]at c;cases d<;>(try simp only []at c)<;>try (cases c;done)
     rename_i e;cases q:E.sz e with
     |none=>simp [q]at c| some k=>
       simp only [q]at c;have H: ∃a len g,s=.slice a len g:=(by grind);obtain⟨a,len,g,rfl⟩:=H;have A: ∃r n,s'=.slice r len n/\len<=g:=by
        cases D with
        |nils=>grind|slice Y S=>grind
       obtain⟨r,n,rfl,Z⟩:=A;unfold Builtin.copy_;simp only [F,B,C,Sem.run_bind,bN ok G,Result.andThen_ok];simp only []at c;cases W<;>(try simp only []at c)<;>try (cases c;done)
       . rename_i s;rw [cS]at c;by_cases I:k=1
         . subst I;simp only [decide_true,cond_true]at c;have z:(Builtin.firstCells 1 (Xh s.size len) (.string s)).run P w=.ok ((((aM s).map fun b=>Value.int .u8 (.ofNat b.toNat)).take (dR s.size len)).toArray) w:=(by simp only [Builtin.firstCells,Sem.run_pure];congr 1;apply Xw;rw [oe];simp [aM,List.map_take]);have T:VL mu (((aM s).map fun b=>Value.int .u8 (.ofNat b.toNat)).take (dR s.size len)) (((aM s).map fun b=>Value.int .u8 (.ofNat b.toNat)).take (dR s.size len)):=(by rw [<-List.map_take];exact LR.mapSame _ fun b=>.int _ _);generalize((aM s).map fun b=>Value.int .u8 (.ofNat b.toNat)).take (dR s.size len)=l at c z T;cases l with
           | nil=>
             simp only []at c;cases c;refine⟨goInt (Xh s.size len:Nat),mu,w,?_,j,Ext.refl mu h w j,by rw [oe];exact .int _ _⟩;cases r<;>simp [Builtin.lenOf,eg ok q,z,storeCells]
           | cons y J=>
             simp only []at c;cases a with
             |none=>simp at c| some a=>
               cases D with
               | slice q1 K=>
                 rename_i r;simp only []at c;cases f:h.store a.block a.off (y::J)with
                 |none=>simp [f]at c| some L=>
                   simp only [f]at c;cases c;have i:g≠0:=(by intro e0;simp_all[Xh,Nat.min_zero,Builtin.firstCells]);obtain⟨w',M,N,O⟩:=rL (P:=P) j (qG K i) f T;refine⟨goInt (Xh s.size len:Nat),mu,w',?_,N,O,by rw [oe];exact .int _ _⟩;simp [Builtin.lenOf,eg ok q,z,M]
         grind
       . cases c;refine⟨goInt 0,mu,w,?_,j,Ext.refl mu h w j,.int _ _⟩;have:Xh 0 len=0:=Nat.zero_min len;cases r<;>simp [Builtin.lenOf,eg ok q,Builtin.firstCells,this,storeCells]
       . rename_i b b' m cp Q Y S;cases u:h.load b.block b.off (dR m len*k)with
         |none=>simp [u]at c| some l=>
           simp only [u]at c;have R:dR m len<=cp:=(by rw [oe];grind);obtain⟨o1,U,V,o3⟩:=mH (P:=P) j (len:=dR m len) R S u;have z:(Builtin.firstCells k (Xh m len) (.slice (some b') m Q)).run P w=.ok U.toArray w:=(by rw [<-oe];exact o3 w rfl);cases l with
           | nil=>
             simp only []at c;cases c;have:U=[]:=V.nil_left;subst this;refine⟨goInt (Xh m len:Nat),mu,w,?_,j,Ext.refl mu h w j,by rw [oe];exact .int _ _⟩;cases r<;>simp [Builtin.lenOf,eg ok q,z,storeCells]
           | cons y J=>
             simp only []at c;cases a with
             |none=>simp at c| some a=>
               cases D with
               | slice q1 K=>
                 rename_i r;simp only []at c;cases f:h.store a.block a.off (y::J)with
                 |none=>simp [f]at c| some L=>
                   simp only [f]at c;cases c;have i:g≠0:=(by intro e0;simp_all[oe,Xh,Nat.min_zero]);obtain⟨w',M,N,O⟩:=rL (P:=P) j (qG K i) f V;refine⟨goInt (Xh m len:Nat),mu,w',?_,N,O,by rw [oe];exact .int _ _⟩;simp [Builtin.lenOf,eg ok q,z,M]
omit ok in
theorem Df{l l':List Value}{r:List UInt8}(h:bytesOf l=some r)(a:VL mu l l')(s:ByteArray)(w:World)(m:String):
 (forIn l' s (fun c s=>match c with| .int .u8 n=>pure (ForInStep.yield (s.push (UInt8.ofNat n.toNat)))|_=>do stuck m;pure (ForInStep.yield s)):Sem ByteArray).run P w=.ok (iV (aM s++r)) w:=by
 induction l generalizing l' r s with
 | nil=>rw [a.nil_left];simp_all[bytesOf,iV,aM]| cons x l f=>
   obtain⟨g,q,rfl,b,i⟩:=a.cons_left;have: ∃n:Nat,x=.int .u8 (n:Int):=(by unfold bytesOf at h;grind);obtain⟨n,rfl⟩:=this;cases b;have d:(match bytesOf l with|none=>none|some r=>some (UInt8.ofNat n::r))=some r:=h;cases e:bytesOf l with
   |none=>simp [e]at d| some j=>simp_all[List.forIn_cons,Sem.run_bind,Sem.run_pure,Result.andThen_ok,Int.toNat_natCast,iV,aM]
omit ok in
theorem DB(w:World)(cs:Array Value)(e:TypeId):
 WNew w ({w with heap:=w.heap.push (.cells cs e)}.freeze {block:=w.heap.size,off:=cs.size} 1) (.cells cs e (cs.size,cs.size+1)):=by
 refine⟨?_,rfl,rfl,rfl⟩;simp only [World.freeze,if_neg (show¬(1:Nat)=0 by omega)];grind
theorem convV_run    (C:bg mu h w) {i c:TypeId}  (t:jz E h i c x=some (h',v)) (M:aw mu x x'):
 ∃v' y w',(convert i c x').run P w=.ok v' w'/\bg y h' w'/\Ext mu h w y h' w'/\aw y v v':=by
 unfold jz at t;cases g:cP E i c with
 |none=>simp [g]at t| some q =>
   obtain⟨n,e⟩:=q;unfold cP at g;cases G:E.und i with
   |none=>simp [G]at g| some d =>
     simp only [G]at g;have z:(∀e,d≠ .slice e)->n=0-> ∃v' y w',(convert i c x').run P w=.ok v' w'/\bg y h' w'/\Ext mu h w y h' w'/\aw y v v':=by
      intro N hn;subst hn;have O:cP E i c=some (0,e):=(by grind[cP]);simp only [O]at t;cases Q:ju E c x with
      |none=>simp [Q]at t| some u=>
        simp only [Q]at t;cases t;obtain⟨Z,g2⟩:=convP_run ok G N Q M w;grind[Ext.refl]
     cases d<;>(try simp only []at g)<;>(try (cases g;exact z (by intro e R;cases R) rfl))
     case string=>
      cases o:E.und c with
      |none=>simp [o]at g| some S=>
        simp only [o]at g;cases S<;>(try simp only []at g)<;>(try (cases g;exact z (by intro e R;cases R) rfl));rename_i I;cases p:E.und I with
        |none=>simp [p]at g| some T=>
          simp only [p]at g;have D:T=.int .u8/\n=2/\e=I:=(by grind);obtain⟨rfl,rfl,rfl⟩:=D;have F:cP E i c=some (2,e):=(by grind[cP]);simp only [F]at t;cases M<;>(try simp only []at t)<;>try (cases t;done)
          rename_i s;rw [fe]at t;by_cases U:s.size<=1099511627776
          . simp only [U,decide_true,cond_true,bytesV]at t;cases t;obtain⟨H,V⟩: ∃H,H=(Question.appendCap s.size 0 e).cut (w.tape w.drawn (.appendCap s.size 0 e)):=⟨_,rfl⟩;have ai:s.size<=H:=(by grind[Question.cut]);obtain⟨A,J⟩: ∃A:Array Value,A=(s.data.map fun b=>Value.int .u8 b.toNat)++Array.replicate (H-s.size) (.int .u8 0):=⟨_,rfl⟩;have W:A.size=H:=(by simp_all);have N:bg mu h {w with drawn:=w.drawn+1}:=uX C rfl;have X:=DB {w with drawn:=w.drawn+1} A e;have ad:(aM s).length=s.size:=rfl;obtain⟨Z,g2⟩:=pg (x:=.cells (Tr.ofList ((aM s).map fun b=>.int .u8 (.ofNat b.toNat))) s.size e 1) (base:=0) (top:=A.size) N X ⟨A,e,(A.size,A.size+1),rfl,rfl,by omega,by
             grind[Tr.sized_ofList,aM,List.length_map],by
             intro j v L;rw [Tr.get_ofList]at L;have hj:j<s.size:=(by grind);refine⟨v,?_,?_⟩
             . rw [Xs,<-zO,J];simp only [Xl,Xc];rw [Xf (by grind)];exact L
             . simp only [List.getElem?_map,Option.map_eq_some_iff]at L;obtain⟨b,_,rfl⟩:=L;exact .int _ _,by omega⟩
            refine⟨.slice (some ⟨w.heap.size,0,none⟩) s.size H,_,_,?_,Z,(xI (w':={w with drawn:=w.drawn+1}) C rfl rfl rfl rfl).trans g2,?_⟩
            . have hf:(Question.appendCap s.size 0 e).forced=false:=rfl;have B:World.shape? {w with drawn:=w.drawn+1,heap:=w.heap.push (.cells A e)} w.heap.size=some (e,A.size):=(by simp [World.shape?]);simp only [convert,Sem.run_bind,bN ok G,bN ok o,bN ok p,Result.andThen_ok,Conv.stringToBytes,run_choose,hf,Xa,if_false,<-V,newRow,run_newObj,Sem.run_pure,<-J,markStringish,run_shape,B,run_freeze]
            simp_all[Ai,Xi]
          grind
     case slice I=>
      cases o:E.und c with
      |none=>simp [o]at g| some S =>
        simp only [o]at g;cases S<;>(try simp only []at g)<;>try (cases g;done)
        cases p:E.und I with
        |none=>simp [p]at g| some T =>
          simp only [p]at g;have D:T=.int .u8/\n=1/\e=I:=(by grind);obtain⟨rfl,rfl,rfl⟩:=D;have F:cP E i c=some (1,e):=(by grind[cP]);simp only [F]at t;cases f:strOf h x with
          |none=>simp [f]at t| some u=>
            simp only [f]at t;cases t;unfold strOf at f;cases M<;>(try simp only []at f)<;>try (cases f;done)
            . cases f;refine⟨.string .empty,mu,w,?_,C,Ext.refl mu h w C,.string _⟩;simp [convert,bN ok G,bN ok o,bN ok p,Conv.bytesToString]
            . rename_i a a' len ak af h1 h2;cases K:h.load a.block a.off len with
              |none=>grind| some l=>
                simp only [K]at f;cases Y:bytesOf l with
                |none=>simp [Y]at f| some r=>
                  simp only [Y]at f;cases f;obtain⟨o1,l',o2,o3⟩:=mH (P:=P) C (len:=len) (k:=1) h1 h2 (by rw [Xt];exact K);have o4:=o3 w rfl;simp only [Builtin.firstCells,Xt]at o4;have hf:=fun m=>Df (P:=P) Y o2 ByteArray.empty w m;refine⟨.string (iV r),mu,w,?_,C,Ext.refl mu h w C,.string _⟩;simp only [convert,Sem.run_bind,bN ok G,bN ok o,bN ok p,Result.andThen_ok,Conv.bytesToString,o4];rw [List.forIn_toArray];refine(congrArg (fun q=>Result.andThen q (fun a w'=>Sem.run P (pure (Value.string a)) w')) (hf _)).trans ?_;simp [aM]
omit ok in
theorem DR{f e:Value}{args:List Value}{args':Array Value}{nx:dM}(a:target f args=some nx)(hf:aw mu f e)(i:VL mu args args'.toList):
 Res P mu h w (do let d<-Deferred.ofValue e args';invoke d.target d.args) h nx:=by
 unfold target at a;cases hf<;>(try simp only []at a)<;>try (cases a;done)
 . rename_i g x j y k l m n o;cases a;refine⟨rfl,j++args'++k,by rfl,?_⟩;simp only [Xl];exact LR.append (LR.append ⟨l,m⟩ i) ⟨n,o⟩
 . rename_i b c p;simp at a;subst a;exact⟨rfl,c,args',by simp [Deferred.ofValue,invoke],p,i⟩
theorem aop_run    (G:bg mu h w) {ρ B:Operand->Value} (u: ∀x,aw mu (ρ x) (B x)) {o:Oper} {nx:dM} (i:aop E ρ h o.op=some (nx,h')):
 Res P mu h w (execOp B o) h' nx:=by
 have Z: ∀l:List Operand,VL mu (l.map ρ) (l.map B):=fun l=>LR.mapSame l u;have S: ∀{v:Value},pop E ρ o.op=some v->Res P mu h w (execOp B o) h (.val v):=by intro v C;obtain⟨O,F,D⟩:=pop_run ok u C w;exact⟨O,mu,w,F,G,Ext.refl mu h w G,D⟩
 have wr: ∀{r:Option Value},cV h r=some (nx,h')-> ∃v,r=some v/\nx=.val v/\h'=h:=by
  intro r N;cases r with
  |none=>cases N
  |some v=>cases N;grind
 have Y: ∀{r:Option (Hp×Value)},dD r=some (nx,h')-> ∃v,r=some (h',v)/\nx=.val v:=by
  intro r N;cases r with
  |none=>cases N
  |some q=>obtain⟨a,b⟩:=q;cases N;grind
 have wu: ∀{r:Option Hp},fU r=some (nx,h')->r=some h'/\nx=.skip:=by
  intro r N;cases r with
  |none=>cases N
  |some q=>cases N;grind
 obtain⟨a0,op,Q,pos,ak,guard⟩:=o;simp only []at i S;unfold execOp;simp only [];cases op
 case load t a=>
  obtain⟨v,C,rfl,rfl⟩:=wr i;obtain⟨O,F,D⟩:=Am ok G C (u a);exact⟨O,mu,w,by simp [F],G,Ext.refl mu _ w G,D⟩
 case store t a x=>
  obtain⟨C,rfl⟩:=wu i;obtain⟨H,F,D,I⟩:=EI ok G C (u a) (u x);exact⟨mu,H,by simp [F],D,I⟩
 case convert s d x=>
  obtain⟨v,C,rfl⟩:=Y i;obtain⟨O,J,H,F,D,I,U⟩:=convV_run ok G C (u x);exact⟨O,J,H,by simp [F],D,I,U⟩
 case alloc e=>
  simp only [aop]at i;cases hz:E.zero e with
  |none=>simp [hz]at i| some z=>
    simp only [hz]at i;obtain⟨v,C,rfl⟩:=Y i;cases C;obtain⟨zv,z1,z2,z3,z4⟩:=po ok hz w;have N:VL mu z zv.cells.toList:=(by grind[LR.refl,aw.const,Xb]);obtain⟨F,D⟩:=qM G (el:=e) N (iT w (.cells zv.cells e)) (Tr.sized_ofList z) (Tr.get_ofList z);exact⟨.pointer (some ⟨w.heap.size,0,none⟩),_,_,by simp [Instr.alloc,z1,newVar,newRow],F,D,.ptr (zi mu h.n w.heap.size 0 _)⟩
 case box e x=>
  simp only [aop]at i;have al: ∀y,ρ x≠ .chan y:=by grind
  have ax:dD (some (s7 h (ae (ρ x)) e))=some (nx,h'):=by grind
  obtain⟨v,C,rfl⟩:=Y ax;cases C;have N:=(u x).cells al;obtain⟨F,D⟩:=qM G (el:=e) N (iT w (.cells (B x).cells e)) (Tr.sized_ofList _) (Tr.get_ofList _);exact⟨.pointer (some ⟨w.heap.size,0,none⟩),_,_,by rfl,F,D,.ptr (zi mu h.n w.heap.size 0 _)⟩
 case buildSlice t n K=>
  obtain⟨v,C,rfl⟩:=Y i;have hq:PL mu (K.toList.map fun p=>(p.1,ρ p.2)) (K.toList.map fun p=>(p.1,B p.2)):=LR.mapSame _ fun p=>⟨rfl,u p.2⟩;obtain⟨O,J,H,F,D,I,U⟩:=ye ok G C hq;have e:(K.map fun(x:Nat×Operand)=>(x.1,B x.2))=(K.toList.map fun p=>(p.1,B p.2)).toArray:=by apply Xw;simp
  refine⟨O,J,H,?_,D,I,U⟩;simp_all
 case makeSlice t l c=>
  obtain⟨v,C,rfl⟩:=Y i;obtain⟨O,J,H,F,D,I,U⟩:=zn ok G C (u l) (u c);exact⟨O,J,H,by simp [F],D,I,U⟩
 case makeMap t r=>
  cases r with
  |some x=>simp only [aop]at i;obtain⟨v,C,rfl,rfl⟩:=wr i;cases C
  | none=>
    cases i;obtain⟨F,D⟩:=pg (x:=.map [] 0) (base:=0) (top:=0) G (iT w (.map #[] 0)) ⟨rfl,#[],rfl,LR.nil⟩;exact⟨.map (some w.heap.size),_,_,by rfl,F,D,.map (by unfold dW;rw [upd_same];omega)⟩
 case lookup t m k q=>
  obtain⟨v,C,rfl,rfl⟩:=wr i;obtain⟨O,F,D⟩:=C0 ok G C (u m) (u k);exact⟨O,mu,w,by simp [F],G,Ext.refl mu _ w G,D⟩
 case mapUpdate t m k x=>
  obtain⟨C,rfl⟩:=wu i;obtain⟨H,F,D,I⟩:=xW ok G C (u m) (u k) (u x);exact⟨mu,H,by simp [F],D,I⟩
 case insert t m k x=>
  obtain⟨C,rfl⟩:=wu i;obtain⟨H,F,D,I⟩:=xW ok G C (u m) (u k) (u x);exact⟨mu,H,by simp [F],D,I⟩
 case mapEntry t m k=>
  obtain⟨v,C,rfl⟩:=Y i;obtain⟨O,H,F,D,I,U⟩:=DK ok G C (u m) (u k);exact⟨O,mu,H,by simp [F],D,I,U⟩
 case entryStore t m s x=>
  obtain⟨C,rfl⟩:=wu i;obtain⟨H,F,D,I⟩:=Ce (P:=P) (t:=t) G C (u m) (u s) (u x);exact⟨mu,H,by simp [F],D,I⟩
 case panic x=>
  simp only [aop]at i;have V:=u x;revert i;cases N:ρ x<;>intro i<;>(try simp only []at i)<;>try (cases i;done)
  cases i;rw [N]at V;cases R:B x<;>rw [R]at V<;>cases V;rename_i C;exact⟨rfl,_,by simp only [R];rfl,.iface C⟩
 case defer c=>
  simp only [aop]at i;obtain⟨L,A,j⟩:=c;cases L<;>(try simp only []at i)<;>try (cases i;done)
  rename_i f;have V:=u f;revert i;cases N:ρ f<;>intro i<;>(try simp only []at i)<;>try (cases i;done)
  rename_i fn a b;cases fn<;>(try simp only []at i)<;>try (cases i;done)
  rename_i g;cases i;rw [N]at V;cases R:B f<;>rw [R]at V<;>cases V;rename_i a' b' h1 h2 h3 h4;refine⟨rfl,{target:=.fn (.func g) b',args:=a'++A.map B},?_,?_⟩
  . simp only [resolve,R,Deferred.ofValue];simp
  . refine⟨b',rfl,⟨h3,h4⟩,?_⟩;simp only [Xl,Xc];exact LR.append ⟨h1,h2⟩ (Z _)
 case call c=>
  obtain⟨L,A,j⟩:=c;simp only [aop]at i;cases L<;>(try simp only []at i)<;>try (cases i;done)
  case value f=>
   cases W:target (ρ f) (A.toList.map ρ)with
   |none=>simp [W]at i| some x=>
     simp only [W]at i;cases i;have:=DR (P:=P) (h:=h) (w:=w) (args':=A.map B) W (u f) (by simp_all);exact this
  case builtin b =>
   have T: ∀{x:Operand} {l:List Operand},A.toList=x::l->(A.map B)[0]? =some (B x):=(by intro x l e;rw [<-zO,Xc,e];rfl);have X: ∀{x y:Operand} {l:List Operand},A.toList=x::y::l->(A.map B)[1]? =some (B y):=(by intro x y l e;rw [<-zO,Xc,e];rfl);have ad: ∀{v:Value},pop E ρ (.call ⟨.builtin b,A,j⟩)=some v->nx=.val v->h'=h->Res P mu h w (do let d<-resolve B ⟨.builtin b,A,j⟩ Q;invoke d.target d.args) h' nx:=(by intro v C e1 e2;subst e1;subst e2;exact S C);cases b
   case append=>
    simp only []at i;cases M:A.toList with
    |nil=>simp [M]at i| cons x l=>
      cases l with
      |nil=>simp [M]at i| cons y l=>
        simp only [M]at i;obtain⟨v,C,rfl⟩:=Y i;obtain⟨O,J,H,F,D,I,U⟩:=CV ok G (ty:=Q) (T M) (X M) C (u x) (u y);exact⟨O,J,H,by simp [resolve,invoke,builtin,F],D,I,U⟩
   case copy=>
    simp only []at i;cases M:A.toList with
    |nil=>simp [M]at i| cons x l=>
      cases l with
      |nil=>simp [M]at i| cons y l=>
        simp only [M]at i;obtain⟨v,C,rfl⟩:=Y i;obtain⟨O,J,H,F,D,I,U⟩:=copyV_run ok G (ty:=Q) (T M) (X M) C (u x) (u y);exact⟨O,J,H,by simp [resolve,invoke,builtin,F],D,I,U⟩
   case delete=>
    simp only []at i;cases W:j.toList with
    |nil=>simp [W]at i| cons t ts=>
      cases M:A.toList with
      |nil=>grind| cons x l=>
        cases l with
        |nil=>grind| cons y l=>
          simp only [W,M]at i;cases hd:oq E h t (ρ x) (ρ y)with
          |none=>simp [hd]at i| some h2=>
            simp only [hd]at i;cases i;obtain⟨H,F,D,I⟩:=Ek ok G (ty:=Q) (ts:=j) (by rw [<-zO,W];rfl) (T M) (X M) hd (u x) (u y);exact⟨.tuple #[],mu,H,by simp [resolve,invoke,builtin,F],D,I,.tuple rfl (by grind)⟩
   case recover=>
    simp only []at i;cases i;exact⟨rfl,by rfl⟩
   case len =>
    simp only []at i;cases hp:pop E ρ (.call ⟨.builtin .len,A,j⟩)with
    |some v=>grind| none=>
      simp only [hp]at i;cases M:A.toList with
      |nil=>simp [M]at i| cons x l =>
        simp only [M]at i;have V:=u x;revert i;cases N:ρ x<;>intro i<;>(try simp only []at i)<;>try (cases i;done)
        rename_i r;cases r with
        |none=>simp at i| some r =>
          simp only []at i;rw [N]at V;cases hg:h.get r with
          |none=>simp [hg]at i| some y=>
            simp only [hg]at i;cases y<;>(try simp only []at i)<;>try (cases i;done)
            rename_i es ay;cases W:j.toList with
            |nil=>simp [W]at i| cons t ts=>
              simp only [W]at i;cases hu:E.und t with
              |none=>simp [hu]at i| some d=>
                simp only [hu]at i;cases d<;>(try simp only []at i)<;>try (cases i;done)
                cases i;cases R:B x<;>rw [R]at V<;>cases V;rename_i c aL;obtain⟨top,af,k1,k2,k3⟩:=yJ G aL hg;have e0:j[0]? =some t:=(by rw [<-zO,W];rfl);have e1:=T M;rw [R]at e1;have ai:es.length=af.size:=k3.1;refine⟨.int .i64 af.size,mu,w,?_,G,Ext.refl mu _ w G,by rw [ai];exact .int _ _⟩;have:(Builtin.len_ j Q (A.map B)).run P w=.ok (.int .i64 af.size) w:=(by unfold Builtin.len_;simp only [e0,e1,Sem.run_bind,bN ok hu,Result.andThen_ok,kX k2];rfl);simp [resolve,invoke,builtin,this]
   all_goals (simp only []at i;obtain⟨v,C,e1,e2⟩:=wr i;exact ad C e1 e2)
 all_goals (simp only [aop]at i;obtain⟨v,C,rfl,rfl⟩:=wr i;exact S C)
end
noncomputable section
structure Loc where
 regs:Tr Value
 dfs:List Deferred
 rc:Option (Value×Bool)
def Loc.ev(l:Loc):Operand->Value
 | .tmp t=>match l.regs.get t with
   |some v=>v|none=>.tuple #[]
 | .const v=>bif du v then v else poison
 | .global g=>bif Xp g 16 then .pointer (some ⟨g,0,none⟩)else poison
 | .func f=>.func (.func f) #[] #[]
def Loc.put(l:Loc)(d:Option Tmp)(v:Value):Loc:=match d with
 |none=>l|some t=>{l with regs:=l.regs.set t v}
inductive Ex where
 |normal
 |exit (id:Nat)
 |ret
 |pan (v:Value)
inductive Out where
 |ret (v:Value)
 |pan (v:Value)
structure Cx where
 fn:FuncId
 nr:Nat
 round:Option Nat
structure Rec where
 call:FuncId->List Value->Option (Value×Bool)->Hp->Option (Out×Option (Value×Bool)×Hp)
 code:Cx->Code->Loc->Hp->Option (Ex×Loc×Hp)
def p8(a:Tr Value):List Tmp->List Value->Option (Tr Value)
 | [],[]=>some a|t::b,v::c=>p8 (a.set t v) b c|_,_=>none
def kj (E:Env) (R:Rec) (b:Nat) (args:List Value) (h:Hp):Option (Out×Hp):=match h.get b with
 | some (.loop r)=>bif (E.fn r.fn).isSome then match r.st with
   | 0 =>match p8 r.regs r.params.toList args with
     |none=>none| some c=>match R.code ⟨r.fn,r.nr,some b⟩ r.assign ⟨c,[],none⟩ h with
       | some (.normal,l,e)=>match e.get b with
         | some (.loop f)=>match f.st with
           | 0 =>match R.code ⟨r.fn,r.nr,some b⟩ r.body l (e.put b (.loop {f with st:=1}))with
             | some (.normal,_,a)=>match a.get b with
               |some (.loop d)=>some (.ret (.bool true),a.put b (.loop {d with st:=0,pending:=none}))
               |_=>none
             | some (.exit id,_,a)=>match a.get b with
               |some (.loop d)=>some (.ret (.bool false),a.put b (.loop {d with st:=2,pending:=some (.exit id)}))
               |_=>none
             | some (.ret,_,a)=>match a.get b with
               |some (.loop d)=>some (.ret (.bool false),a.put b (.loop {d with st:=2,pending:=some .ret}))
               |_=>none
             | some (.pan v,g,a)=>match g.dfs with
               | []=>some (.pan v,a)|_=>none
             |none=>none
           |_=>none
         |_=>none
       |_=>none
   |_=>none
   else none
 |_=>none
def cJ (ops:List Oper) (c:Tr Value) (o:Oper):Option Bool:=match o.guard with
 |none=>some true| some (j,a)=>match ops[j]? with
   |none=>some false| some e=>match e.dst with
     |none=>some false| some d=>match c.get d with
       |some (.bool b)=>some (bif b then a else !a)
       |some (.tuple _)=>some false|_=>none
def dB(E:Env)(R:Rec):Option (dM×Hp)->Option (Out×Hp)
 |some (.val v,c)=>some (.ret v,c)|some (.skip,c)=>some (.ret (.tuple #[]),c)| some (.call f a,c)=>match R.call f a none c with
   |some (x,_,d)=>some (x,d)|none=>none
 |some (.yield b a,c)=>kj E R b a c|some (.panic v,c)=>some (.pan v,c)|some (.recov,_)=>none|some (.defer _,_)=>none|none=>none
def pQ(o:Oper)(l:Loc):Option (Out×Hp)->Option (Ex×Loc×Hp)
 |some (.ret v,a)=>some (.normal,l.put o.dst v,a)|some (.pan v,a)=>some (.pan v,l,a)|none=>none
def eY(E:Env)(R:Rec)(cx:Cx)(o:Oper)(l:Loc)(h:Hp):Option (Ex×Loc×Hp):=match aop E l.ev h o.op with
 | some (.recov,a)=>match cx.round with
   |some _=>none| none=>match l.rc with
     |some (v,false)=>some (.normal,({l with rc:=some (v,true)}:Loc).put o.dst v,a)
     |_=>some (.normal,l.put o.dst .nilIface,a)
 | some (.defer d,a)=>match cx.round with
   |some _=>none|none=>some (.normal,({l with dfs:=d::l.dfs}:Loc).put o.dst (.tuple #[]),a)
 |r=>pQ o l (dB E R r)
def je(E:Env)(R:Rec)(cx:Cx)(ops:List Oper):List Oper->Loc->Hp->Option (Ex×Loc×Hp)
 | [],l,h=>some (.normal,l,h)| o ::a,l,h=>match cJ ops l.regs o with
   |none=>none|some false=>je E R cx ops a (l.put o.dst (.tuple #[])) h| some true=>match eY E R cx o l h with
     |some (.normal,b,c)=>je E R cx ops a b c|r=>r
def cls(E:Env):Op->Nat
 | .move _| .assign _| .pick .. | .nilCheck _| .binOp .. | .unOp .. | .makeInterface .. | .makeFunc .. | .slice .. | .fieldAddr .. | .field ..
 | .indexAddr .. | .index .. | .extract .. | .build .. | .typeAssert .. =>0| .convert a b _=>match E.und a,E.und b with
   |some (.slice _),_=>1|some .string,some (.slice _)=>4|_,_=>0
 | .load .. | .lookup .. =>1| .store .. | .insert .. | .mapUpdate .. | .mapEntry .. | .entryStore .. =>2
 | .alloc _| .box .. | .buildSlice .. | .makeSlice .. | .makeMap .. =>4| .call c=>match c.callee with
   | .builtin .min| .builtin .max=>0| .builtin .len=>1| .builtin .delete| .builtin .copy=>2
   | .builtin .append=>5|_=>3
 |_=>3
def touch(ρ:Operand->Value):Op->Option Nat
 | .load _ a| .store _ a _=>match ρ a with
   | .pointer (some a)=>some a.block|_=>none
 | .lookup _ m _ _| .insert _ m _ _| .mapUpdate _ m _ _| .mapEntry _ m _| .entryStore _ m _ _=>match ρ m with
   | .map r=>r|_=>none
 | .convert _ _ x=>match ρ x with
   | .slice (some a) _ _=>some a.block|_=>none
 | .call c=>match c.args.toList with
   | x::_=>match ρ x with
     | .map r=>r| .slice (some a) _ _=>some a.block|_=>none
   |_=>none
 |_=>none
def befs :List Oper->List Nat->Option (List Nat)
 | [],a=>some a| o ::b,a=>match(o.after.toList.foldl (fun s e=>match s with
     |none=>none| some s=>match e.ground with
       | .textOnly _=>some s| .gcOnly _=>some s| _=>match a[a.length-1-e.on]? with
         |none=>none|some m=>bif Xp e.on a.length then some (Xj (Xj s (Xm 2 e.on)) m)else none) (some 0))with
   |none=>none|some s=>befs b (s::a)
def lG (ops:List Oper) (o:Oper):List Tmp:=
 o.dst.toList++(o.op.operands.toList.filterMap fun x=>match x with| .tmp t=>some t|_=>none)++
  (match o.guard with
    |none=>[]| some (j,_)=>match ops[j]? with
      |none=>[]|some a=>a.dst.toList)
def oS(t:Nat):List Nat->Bool
 | []=>false|x::l=>zM t x||oS t l
def ul(ops:List Oper)(o p:Oper):Bool:=
 (match o.dst with|none=>true|some t=>!oS t (lG ops p))&&(match p.dst with|none=>true|some t=>!oS t (lG ops o))
def qP:Op->Op->Bool
 | .mapEntry t _ _,.lookup a _ _ b=>!b&&zM t a|_,_=>false
def dN:Op->Bool
 | .call c=>match c.callee with
   | .builtin _=>false|_=>true
 |_=>false
def fJ:Op->Bool
 | .alloc _=>true|_=>false
def isMk:Op->Bool
 | .makeMap .. =>true|_=>false
def mapArg:Op->Option Tmp
 | .insert _ (.tmp t) _ _=>some t| .mapUpdate _ (.tmp t) _ _=>some t|_=>none
def tZ(t:Tmp)(o:Oper):Bool:=match o.dst with
 |some d=>zM d t|none=>false
def atIs(f:Oper->Bool)(ops:List Oper)(k:Nat):Bool:=match ops[k]? with
 |some o=>f o|none=>false
def qg(ops:List Oper)(o:Oper)(n i:Nat):Bool:=match mapArg o.op with
 |some t=>(Xd n).any fun k=>Xp i k&&(atIs (fun p=>isMk p.op&&tZ t p) ops k&&(Xd n).all fun j=>Nat.ble j k|| !atIs (tZ t) ops j)
 |none=>false
def jY (E:Env) (ops:List Oper) (o:Oper) (m n:Nat):List Oper->Nat->Nat×List (Nat×Nat)->Option (Nat×List (Nat×Nat))
 | [],_,r=>some r| p ::a,i,(q,l)=>bif Xv m i then jY E ops o m n a (i+1) (q,l)else
   bif ul ops o p then
    match cls E o.op,cls E p.op with
    |0,_=>jY E ops o m n a (i+1) (q,l)|_,0=>jY E ops o m n a (i+1) (q,l)|1,1=>jY E ops o m n a (i+1) (q,l)|2,1=>jY E ops o m n a (i+1) (q,bif qP o.op p.op then l else(i,n)::l)
    |1,2=>jY E ops o m n a (i+1) (q,bif qP p.op o.op then l else(i,n)::l)
    |5,1=>jY E ops o m n a (i+1) (q,(i,n)::l)|1,5=>jY E ops o m n a (i+1) (q,(i,n)::l)|3,1=>bif dN o.op then jY E ops o m n a (i+1) (q,(i,n)::l)else jY E ops o m n a (i+1) (Xj (Xm 2 n) q,l)
    |1,3=>bif dN p.op then jY E ops o m n a (i+1) (q,(i,n)::l)else jY E ops o m n a (i+1) (Xj (Xm 2 i) q,l)
    |3,4=>bif dN o.op&&fJ p.op then jY E ops o m n a (i+1) (q,(i,n)::l)else jY E ops o m n a (i+1) (Xj (Xm 2 n) q,l)
    |2,3=>bif qg ops o n i then jY E ops o m n a (i+1) (Xj (Xm 2 i) q,l)else none
    |2,_=>none|_,2=>none|c,d=>jY E ops o m n a (i+1)
     (Xj (bif zM d 3||zM d 5 then Xm 2 i else 0) (Xj (bif zM c 3||zM c 5 then Xm 2 n else 0) q),l)
   else none
def vS(E:Env)(ops:List Oper):List Oper->List Nat->Nat->Nat×List (Nat×Nat)->Option (Nat×List (Nat×Nat))
 | [],_,_,r=>some r| o::a,m::b,n,r=>match jY E ops o m n (ops.take n) 0 r with
   |none=>none|some (q,l)=>vS E ops a b (n+1) (bif zM (cls E o.op) 4 then Xj (Xm 2 n) q else q,l)
 |_,[],_,_=>none
def jT(E:Env)(ops:List Oper):Option (Nat×List (Nat×Nat)):=match befs ops []with
 |none=>none|some a=>vS E ops ops a.reverse 0 (0,[])
def tmpsOf:List Operand->List Tmp
 | []=>[]| .tmp t::l=>t::tmpsOf l|_::l=>tmpsOf l
def Loc.evD(l:Loc)(ts:List Tmp):Operand->Value
 | .tmp t=>bif oS t ts then l.ev (.tmp t)else poison
 |x=>l.ev x
def fF(E:Env)(q i:Nat)(o:Op):Bool:=Xv q i&&Nat.ble 3 (cls E o)
def di(E:Env)(R:Rec)(ρ:Operand->Value)(a:Bool)(o:Oper)(h:Hp):Option (Value×Hp):=
 bif a then
  match dB E R (aop E ρ {h with lo:=h.n} o.op)with
  |some (.ret v,b)=>bif Nat.ble h.n b.lo then some (v,{b with lo:=h.lo})else none
  |_=>none
 else match dB E R (aop E ρ h o.op)with
  |some (.ret v,b)=>some (v,b)|_=>none
inductive Tch where
 |blk (b:Nat)
 |run (h h':Hp)
def jR(ρ:Operand->Value)(op:Op)(h:Hp):Option Nat:=bif fJ op then some h.n else touch ρ op
def cQ(ρ:Operand->Value)(a:Bool)(op:Op)(h h':Hp):Option Tch:=
 bif dN op then(bif a then none else some (.run h h'))else match jR ρ op h with
  |none=>none|some b=>some (.blk b)
def iR(i:Nat)(a:List (Nat×Tch)):Option Tch->List (Nat×Tch)
 |none=>a|some b=>(i,b)::a
def bZ(E:Env)(R:Rec)(ops:List Oper)(q:Nat):List Oper->Nat->Loc->Hp->List (Nat×Tch)->Option (Loc×Hp×List (Nat×Tch))
 | [],_,l,h,a=>some (l,h,a)| o ::b,i,l,h,a=>match cJ ops l.regs o with
   |none=>none|some false=>bZ E R ops q b (i+1) (l.put o.dst (.tuple #[])) h a| some true=>match di E R (l.evD (tmpsOf o.op.operands.toList)) (fF E q i o.op) o h with
     |none=>none|some (v,c)=>bZ E R ops q b (i+1) (l.put o.dst v) c (iR i a (cQ (l.evD (tmpsOf o.op.operands.toList)) (fF E q i o.op) o.op h c))
def cZ(i:Nat):List (Nat×Tch)->Option Tch
 | []=>none|(k,b)::l=>bif zM i k then some b else cZ i l
def sameAddr(a b:Addr):Bool:=zM a.block b.block&&zM a.off b.off&&(match a.spot,b.spot with
 |none,none=>true|some i,some j=>zM i j|_,_=>false)
def sF(a b:Value):Bool:=match cF a b with
 |some t=>t| none=>match a,b with
   | .pointer none,.pointer none=>true| .pointer (some x),.pointer (some y)=>sameAddr x y| .slice none n m,.slice none c d=>zM n c&&zM m d| .slice (some x) n m,.slice (some y) c d=>sameAddr x y&&(zM n c&&zM m d)| .map none,.map none=>true| .map (some x),.map (some y)=>zM x y| .nilFunc,.nilFunc=>true| .nilIface,.nilIface=>true|_,_=>false
def uV:List Value->List Value->Bool
 | [],[]=>true|x::l,y::m=>sF x y&&uV l m|_,_=>false
def yY(a b:Value):Bool:=match a,b with
 | .func (.func g) x y,.func (.func c) d e=>zM g c&&(uV x.toList d.toList&&uV y.toList e.toList)| .iface t x,.iface f y=>zM t f&&sF x y|_,_=>sF a b
def sameT:Tr Value->Tr Value->Bool
 | .nil,.nil=>true| .node x l r,.node a b c=>yY x a&&(sameT l b&&sameT r c)|_,_=>false
def sameE:List (Value×Value×Nat)->List (Value×Value×Nat)->Bool
 | [],[]=>true|(k,x,n)::l,(a,y,m)::b=>sF k a&&(yY x y&&(zM n m&&sameE l b))|_,_=>false
def sameB(x y:Blk):Bool:=(match x,y with
 | .cells t n e m,.cells b d f g=>sameT t b&&(zM n d&&(zM e f&&zM m g))| .map h c,.map a i=>zM c i&&sameE h a|_,_=>false)|| @decide (x=y) (Classical.propDecidable _)
def leaves(h h':Hp)(b:Nat):Bool:=match h.get b,h'.get b with
 |some x,some y=>sameB x y|none,none=>true|_,_=>false
def jt:Option Tch->Option Tch->Bool
 |some (.blk a),some (.blk b)=>!Nat.beq a b|some (.blk a),some (.run h c)=>leaves h c a|some (.run h c),some (.blk a)=>leaves h c a|some (.run _ _),some (.run _ _)=>false|_,_=>true
def cR(a:List (Nat×Tch)):List (Nat×Nat)->Bool
 | []=>true|(i,j)::l=>jt (cZ i a) (cZ j a)&&cR a l
def uv(o:Oper):Bool:=fJ o.op&&o.guard.isNone
def yi(ops:List Oper)(i:Nat):Bool:=match ops[i]? with
 |some o=>uv o|none=>false
def lates:List Oper->List Bool->List Bool
 | [],a=>a|o::b,a=>lates b ((isMk o.op||o.after.toList.any fun e=>Xp e.on a.length&&a.getD (a.length-1-e.on) false)::a)
def uz(ops:List Oper):Bool:=ops.any (fun o=>dN o.op)&&(ops.any (fun o=>isMk o.op)&&ops.any fun o=>(mapArg o.op).isSome)
def lateAt(ops:List Oper)(i:Nat):Bool:=uz ops&&(lates ops []).reverse.getD i false
def ordL(ops:List Oper):List Nat:=(Xd ops.length).filter (yi ops)++((Xd ops.length).filter (fun i=>!yi ops i&& !lateAt ops i)++(Xd ops.length).filter fun i=>!yi ops i&&lateAt ops i)
def fI(i:Nat):List Nat->Nat
 | []=>0|x::l=>bif zM i x then 0 else fI i l+1
def pE(ord:List Nat)(o:Oper):Oper:={o with after:=o.after.map fun e=>{e with on:=fI e.on ord},guard:=match o.guard with
 |none=>none|some (j,w)=>some (fI j ord,w)}
def eh(ops:List Oper)(ord:List Nat):List Nat->List Oper
 | []=>[]| i::l=>match ops[i]? with
   |none=>eh ops ord l|some o=>pE ord o::eh ops ord l
def jn(n:Nat)(o:Oper):Bool:=match o.guard with
 |none=>true|some (j,_)=>Xp j n
def cu(ops:List Oper):List Oper:=bif (ops.any uv||uz ops)&&ops.all (jn ops.length)then eh ops (ordL ops) (ordL ops)else ops
def fullM(ops:List Oper)(n:Nat):Bool:=match befs ops []with
 |some (m::_)=>(Xd n).all fun i=>Xv m i
 |_=>false
def lu(ops:List Oper)(n:Nat):Bool:=fullM ops n&&(ops.take n).all (jn n)
def tail2(ops:List Oper):Bool:=match ops.reverse with
 |a::b::_=>!dN a.op&&dN b.op|_=>false
def cutN(ops:List Oper):Nat:=bif tail2 ops&&lu (ops.take (ops.length-1)) (ops.length-1-1)then ops.length-1-1 else ops.length-1
def uI (E:Env) (R:Rec) (cx:Cx) (ops:List Oper) (l:Loc) (h:Hp):Option (Ex×Loc×Hp):=bif lu ops (ops.length-1)then
    match jT E (cu (ops.take (cutN ops)))with
    |none=>none| some (q,a)=>match bZ E R (cu (ops.take (cutN ops))) q (cu (ops.take (cutN ops))) 0 l h []with
      |none=>none|some (b,c,d)=>bif cR d a then je E R cx ops (ops.drop (cutN ops)) b c else none
 else none
def rj:Value->Bool
 | .int _ _=>true|_=>false
def insK(t:Tmp)(o:Oper):Option (TypeId×Value):=match o.op with
 | .insert a (.tmp b) (.const k) _=>bif zM b t&&(o.dst.isNone&&rj k)then some (a,k)else none
 |_=>none
def vC(x y:Value):Bool:=match cF x y with
 |some b=>!b|none=>false
def zz(ty:TypeId):Op->Bool
 | .lookup a _ _ _=>zM a ty|_=>false
def yu(E:Env)(ty:TypeId)(t:Tmp)(o:Oper):Bool:=!tZ t o&&(zM (cls E o.op) 0||zz ty o.op)
def vJ(E:Env)(os:List Oper)(i:Nat):Option Tmp:=match os[i]?,os[i+1]?,os[i+2]? with
 | some m,some a,some b=>match m.dst with
   | some t=>match insK t a,insK t b with
     |some (c,x),some (d,y)=>bif isMk m.op&&(zM c d&&(vC x y&&(vC y x&&((os.drop (i+3)).all (yu E c t)&&os.all fun o=>o.guard.isNone))))then some t else none
     |_,_=>none
   |none=>none
 |_,_,_=>none
def qs(os:List Oper):Nat:=os.findIdx fun o=>isMk o.op
def swN(k i:Nat):Nat:=bif zM i k then k+1 else bif zM i (k+1)then k else i
def jb(n k:Nat):List Nat:=(Xd n).map (swN k)
def tie(k i:Nat)(o:Oper):Oper:=bif zM i (k+1)then {o with after:=o.after.push ⟨k,.data⟩}else o
def oh(os:List Oper)(k:Nat):List Oper:=os.mapIdx (tie k)
def uH(E:Env)(ops:List Oper):Bool:=(vJ E (cu ops) (qs (cu ops))).isSome
def forkP(E:Env)(os:List Oper):Option (Nat×List (Nat×Nat)):=match vJ E os (qs os),befs os [],jT E (oh os (qs os+1)),jT E (oh (eh os (jb os.length (qs os+1)) (jb os.length (qs os+1))) (qs os+1))with
 |some _,some _,some (q,b),some (c,a)=>bif zM q c then some (q,b++a)else none
 |_,_,_,_=>none
def qx(t:Option Tmp)(l:Loc)(h:Hp):Option Hp:=match t with
 | some t=>match l.ev (.tmp t)with
   | .map (some b)=>match h.get b with
     |some (.map _ _)=>some (h.put b .dead)|_=>none
   |_=>none
 |none=>none
def forkD(E:Env)(R:Rec)(ops:List Oper)(l:Loc)(h:Hp):Option (Ex×Loc×Hp):=match forkP E (cu ops)with
 |none=>none| some (q,b)=>match bZ E R (cu ops) q (cu ops) 0 l h []with
   |none=>none| some (a,c,d)=>bif cR d b then(match qx (vJ E (cu ops) (qs (cu ops))) a c with
     |some e=>some (.normal,a,e)|none=>none)else none
def cutD(E:Env)(R:Rec)(cx:Cx)(ops:List Oper)(l:Loc)(h:Hp):Option (Ex×Loc×Hp):=bif uH E ops then forkD E R ops l h else uI E R cx ops l h
def js (R:Rec) (cx:Cx) (f:Value) (params:Array Tmp) (assign body:Code) (l:Loc) (h:Hp):Option (Ex×Loc×Hp):=
 match f with
 | .func (.func g) a b=>
   match(match cx.round with
    |none=>some (h.new .dfr,h.n,({target:=.collected h.n,args:=#[]}:Deferred)::l.dfs)| some r=>match h.get r with
      |some (.loop x)=>some (h,x.defers,l.dfs)|_=>none)with
   |none=>none| some (e,d,c)=>
     match R.call g (a.toList++[.func (.yield e.n) #[] #[]]++b.toList) none
      (e.new (.loop {fn:=cx.fn,regs:=l.regs,nr:=cx.nr,params,assign,body,st:=0,pending:=none,defers:=d}))with
     |none=>none|some (.pan v,_,i)=>some (.pan v,{l with dfs:=c},i)
     | some (.ret _,_,i)=>match i.get e.n with
       | some (.loop x)=>match x.st with
         |1=>none| _=>match x.pending with
           |none=>some (.normal,{l with dfs:=c},i.put e.n .dead)
           |some (.exit id)=>some (.exit id,{l with dfs:=c},i.put e.n .dead)
           |some .ret=>some (.ret,{l with dfs:=c},i.put e.n .dead)
           |_=>none
       |_=>none
 |_=>none
def aP (E:Env) (R:Rec) (cx:Cx):Code->Loc->Hp->Option (Ex×Loc×Hp)
 | .skip,l,h=>some (.normal,l,h)| .label _,l,h=>some (.normal,l,h)| .region _ d m,l,h=>bif m then
  bif E.cut cx.fn then cutD E R cx d.toList l h else match jT E (cu d.toList)with
  |none=>none| some (q,o)=>match bZ E R (cu d.toList) q (cu d.toList) 0 l h []with
    |none=>none|some (j,k,p)=>bif cR p o then some (.normal,j,k)else none
   else je E R cx d.toList d.toList l h
 | .seq a b,l,h=>match aP E R cx a l h with
   |some (.normal,j,k)=>aP E R cx b j k|r=>r
 | .cond c a b,l,h=>match l.ev c with
   | .bool t=>bif t then aP E R cx a l h else aP E R cx b l h
   |_=>none
 | .block id b,l,h=>match aP E R cx b l h with
   |some (.exit i,j,k)=>bif zM i id then some (.normal,j,k)else some (.exit i,j,k)
   |r=>r
 | .loop b,l,h=>match aP E R cx b l h with
   |some (.normal,j,k)=>R.code cx (.loop b) j k|r=>r
 | .rangeFunc f e g n,l,h=>js R cx (l.ev f) e g n l h| .exit id,l,h=>some (.exit id,l,h)| .scope b,l,h=>aP E R cx b l h| .goto _,_,_=>none| .ret,l,h=>some (.ret,l,h)| .refuse _,_,_=>none
def cI (R:Rec):List Deferred->Option Value->Hp->Option (Option Value×Hp)
 | [],m,h=>some (m,h)| d ::a,m,h=>match d.target with
   | .collected b=>match h.get b with
     |some .dfr=>cI R a m (h.put b .dead)|_=>none
   | .fn (.func f) c=>match R.call f (d.args.toList++c.toList) (match m with|none=>none|some v=>some (v,false)) h with
     | some (.ret _,g,e)=>match m,g with
       |none,none=>cI R a none e|some _,some (_,true)=>cI R a none e|some _,some (v,false)=>cI R a (some v) e|_,_=>none
     |_=>none
   |_=>none
def bR(E:Env)(b:Tr Value)(h:Hp):List ResultVar->Option (List Value)
 | []=>some []| .tmp t::c=>match bR E b h c with
   |none=>none|some l=>some ((match b.get t with|some v=>v|none=>.tuple #[])::l)
 | .cell a t::c=>match fV E h t (match b.get a with|some v=>v|none=>.tuple #[])with
   |none=>none| some v=>match bR E b h c with
     |none=>none|some l=>some (v::l)
def ab:List Value->Value
 | [v]=>v|l=>.tuple ⟨l⟩
def mE (E:Env) (R:Rec) (f:FuncId) (args:List Value) (rc:Option (Value×Bool)) (h:Hp):Option (Out×Option (Value×Bool)×Hp):=
 match E.fn f with
 |none=>none| some b=>match b.body with
   |none=>none| some c=>
     bif Nat.ble args.length b.ntmps then
     match R.code ⟨f,b.ntmps,none⟩ c ⟨(Tr.blank (.tuple #[]) b.ntmps b.ntmps).setAll 0 args,[],rc⟩ h with
     |none=>none|some (.exit _,_,_)=>none| some (.pan v,l,d)=>match cI R l.dfs (some v) d with
       |none=>none|some (some v,a)=>some (.pan v,l.rc,a)| some (none,a)=>match bR E l.regs a b.results.toList with
         |none=>none|some e=>some (.ret (ab e),l.rc,a)
     | some (_,l,d)=>match cI R l.dfs none d with
       | some (none,a)=>match bR E l.regs a b.results.toList with
         |none=>none|some e=>some (.ret (ab e),l.rc,a)
       |_=>none
     else none
def jB(E:Env)(R:Rec)(f:FuncId)(args:List Value)(rc:Option (Value×Bool))(h:Hp):Option (Out×Option (Value×Bool)×Hp):=
 match E.orc f args with
 |none=>mE E R f args rc h| some v=>match rc with
   |none=>some (.ret v,none,h)|some _=>none
def next(E:Env)(R:Rec):Rec:={call:=jB E R,code:=aP E R}
def bot:Rec:={call:=fun _ _ _ _=>none,code:=fun _ _ _ _=>none}
def run(E:Env):Nat->Rec
 |0=>bot|n+1=>next E (run E n)
end
structure FC where
 fn:FuncId
 kind:CallKind
 round:Option Nat
def FC.mk'(F:FC)(tmps:Array Value)(dfs:List Deferred)(todo:List Item):Frame:=
 {fn:=F.fn,tmps,todo,defers:=dfs,mode:=.run,kind:=F.kind,roundOf:=F.round}
section steps
variable{P:Program}{F:FC}{tmps:Array Value}{dfs:List Deferred}{k:List Item}{cs:List Frame}{w:World}
theorem st_skip:step P (lone (F.mk' tmps dfs (.code .skip::k)) cs w)=.next (lone (F.mk' tmps dfs k) cs w):=step_lone_go (by rfl)
theorem st_label{l:Nat}:step P (lone (F.mk' tmps dfs (.code (.label l)::k)) cs w)=.next (lone (F.mk' tmps dfs k) cs w):=step_lone_go (by rfl)
theorem Er:step P (lone (F.mk' tmps dfs (.inBlock id::k)) cs w)=.next (lone (F.mk' tmps dfs k) cs w):=step_lone_go (by rfl)
theorem Ds{b:Code}:step P (lone (F.mk' tmps dfs (.inScope b::k)) cs w)=.next (lone (F.mk' tmps dfs k) cs w):=step_lone_go (by rfl)
theorem st_seq{a b:Code}:step P (lone (F.mk' tmps dfs (.code (.seq a b)::k)) cs w)=.next (lone (F.mk' tmps dfs (.code a:: .code b::k)) cs w):=step_lone_go (by rfl)
theorem st_block{b:Code}:step P (lone (F.mk' tmps dfs (.code (.block id b)::k)) cs w)=.next (lone (F.mk' tmps dfs (.code b:: .inBlock id::k)) cs w):=step_lone_go (by rfl)
theorem st_loop{b:Code}:step P (lone (F.mk' tmps dfs (.code (.loop b)::k)) cs w)=.next (lone (F.mk' tmps dfs (.code b:: .inLoop b::k)) cs w):=step_lone_go (by rfl)
theorem st_inLoop{b:Code}:step P (lone (F.mk' tmps dfs (.inLoop b::k)) cs w)=.next (lone (F.mk' tmps dfs (.code b:: .inLoop b::k)) cs w):=step_lone_go (by rfl)
theorem st_scope{b:Code}:step P (lone (F.mk' tmps dfs (.code (.scope b)::k)) cs w)=.next (lone (F.mk' tmps dfs (.code b:: .inScope b::k)) cs w):=step_lone_go (by rfl)
theorem st_exit{k':List Item}(h:exitTo id k=some k'):step P (lone (F.mk' tmps dfs (.code (.exit id)::k)) cs w)=.next (lone (F.mk' tmps dfs k') cs w):=step_lone_go (by simp [stepG,stepG.exec,FC.mk',h])
theorem st_region:step P (lone (F.mk' tmps dfs (.code (.region id ops false)::k)) cs w)=.next (lone (F.mk' tmps dfs (.inRegion ops (Xd ops.size)::k)) cs w):=step_lone_go (by rfl)
theorem sH:step P (lone (F.mk' tmps dfs (.code (.region id ops true)::k)) cs w)=
 .next (lone (F.mk' tmps dfs (.inRegion ops (Region.schedule (P.follows .mixedOrders) ops (w.tape w.drawn (.order F.fn id)))::k)) cs {w with drawn:=w.drawn+1}):=
 step_lone_go (by rfl)
theorem qo:step P (lone (F.mk' tmps dfs (.inRegion ops []::k)) cs w)=.next (lone (F.mk' tmps dfs k) cs w):=step_lone_go (by rfl)
def dT(tmps:Array Value):Operand->Value
 | .tmp t=>tmps.getD t undef| .const v=>v| .global g=>.pointer (some ⟨g,0,none⟩)| .func f=>.func (.func f) #[] #[]
theorem zC(todo:List Item):(F.mk' tmps dfs todo).eval=dT tmps:=by rfl
theorem st_cond{c:Operand}{a b:Code}{t:Bool}(h:dT tmps c=.bool t):step P (lone (F.mk' tmps dfs (.code (.cond c a b)::k)) cs w)=.next (lone (F.mk' tmps dfs (.code (if t then a else b)::k)) cs w):=
 step_lone_go (by
  have:=congrFun (zC (F:=F) (tmps:=tmps) (dfs:=dfs) (.code (.cond c a b)::k)) c;simp_all[FC.mk',stepG,stepG.exec])
def iA(tmps:Array Value)(d:Option Tmp)(v:Value):Array Value:=match d with
 |some d=>tmps.setIfInBounds d v|none=>tmps
theorem mC(v:Value):(F.mk' tmps dfs (.inRegion ops (i::rest)::k)).finish v=F.mk' (iA tmps ((ops[i]?).bind (·.dst)) v) dfs (.inRegion ops rest::k):=by rfl
theorem yk(h:((ops[i]?).map (Region.wanted · (yielded ops tmps))).getD false=false):
 step P (lone (F.mk' tmps dfs (.inRegion ops (i::rest)::k)) cs w)=.next (lone (F.mk' (iA tmps ((ops[i]?).bind (·.dst)) undef) dfs (.inRegion ops rest::k)) cs w):=by
 rw [<-mC];exact step_lone_go (by
  simp_all[FC.mk',stepG,stepG.exec])
theorem qh{o:Oper}(a:ops[i]? =some o)(b:Region.wanted o (yielded ops tmps)=true)(d:F.round=none\/ ∀c,o.op≠ .defer c):
 stepG P true {frame:=F.mk' tmps dfs (.inRegion ops (i::rest)::k),callers:=cs,status:=.running,dying:=none} w=
  stepG.apply P true (F.mk' tmps dfs (.inRegion ops (i::rest)::k)) cs none (execOp (dT tmps) o) w:=by
 grind[zC,FC.mk',stepG,stepG.exec,stepG.oper,Frame.oper?]
section op
variable{ops:Array Oper}{i:Nat}{rest:List Nat}{o:Oper}{w':World}
theorem Bp(a:ops[i]? =some o)(b:Region.wanted o (yielded ops tmps)=true)(d:F.round=none\/ ∀c,o.op≠ .defer c)(e:(execOp (dT tmps) o).run P w=.ok (.value v) w'):
 step P (lone (F.mk' tmps dfs (.inRegion ops (i::rest)::k)) cs w)=.next (lone (F.mk' (iA tmps o.dst v) dfs (.inRegion ops rest::k)) cs w'):=by
 have:F.mk' (iA tmps o.dst v) dfs (.inRegion ops rest::k)=(F.mk' tmps dfs (.inRegion ops (i::rest)::k)).finish v:=by rw [mC,a];rfl
 rw [this];exact step_lone_go (by rw [qh a b d];simp [stepG.apply,e])
theorem st_opskip(a:ops[i]? =some o)(b:Region.wanted o (yielded ops tmps)=true)(d:F.round=none\/ ∀c,o.op≠ .defer c)(e:(execOp (dT tmps) o).run P w=.ok .skip w'):
 step P (lone (F.mk' tmps dfs (.inRegion ops (i::rest)::k)) cs w)=.next (lone (F.mk' (iA tmps o.dst undef) dfs (.inRegion ops rest::k)) cs w'):=by
 have:F.mk' (iA tmps o.dst undef) dfs (.inRegion ops rest::k)=(F.mk' tmps dfs (.inRegion ops (i::rest)::k)).finish undef:=by rw [mC,a];rfl
 rw [this];exact step_lone_go (by rw [qh a b d];simp [stepG.apply,e])
theorem st_enter(a:ops[i]? =some o)(b:Region.wanted o (yielded ops tmps)=true)(d:F.round=none\/ ∀c,o.op≠ .defer c){f:FuncId}{args:Array Value}(e:(execOp (dT tmps) o).run P w=.ok (.enter f args) w'):
 step P (lone (F.mk' tmps dfs (.inRegion ops (i::rest)::k)) cs w)=.next (lone (Frame.enter P f args .normal) (F.mk' tmps dfs (.inRegion ops (i::rest)::k)::cs) w'):=
 step_lone_go (by rw [qh a b d];simp [stepG.apply,e,FC.mk'])
theorem st_round(e:ops[i]? =some o)(g:Region.wanted o (yielded ops tmps)=true)(h:F.round=none\/ ∀c,o.op≠ .defer c){l:Nat}{f:FuncId}{d:Array Value}{a b:Code}(j:(execOp (dT tmps) o).run P w=.ok (.round l f d a b) w'):
 step P (lone (F.mk' tmps dfs (.inRegion ops (i::rest)::k)) cs w)=.next (lone (Frame.round l f d a b .normal) (F.mk' tmps dfs (.inRegion ops (i::rest)::k)::cs) w'):=
 step_lone_go (by rw [qh e g h];simp [stepG.apply,j,FC.mk'])
theorem st_defer(a:ops[i]? =some o)(b:Region.wanted o (yielded ops tmps)=true)(c:F.round=none){d:Deferred}(e:(execOp (dT tmps) o).run P w=.ok (.defer d) w'):
 step P (lone (F.mk' tmps dfs (.inRegion ops (i::rest)::k)) cs w)=.next (lone (F.mk' (iA tmps o.dst undef) (d::dfs) (.inRegion ops rest::k)) cs w'):=by
 have:F.mk' (iA tmps o.dst undef) (d::dfs) (.inRegion ops rest::k)=(F.mk' tmps (d::dfs) (.inRegion ops (i::rest)::k)).finish undef:=by rw [mC,a];rfl
 rw [this];exact step_lone_go (by rw [qh a b (.inl c)];simp [stepG.apply,e,FC.mk'])
theorem st_panic(a:ops[i]? =some o)(b:Region.wanted o (yielded ops tmps)=true)(d:F.round=none\/ ∀c,o.op≠ .defer c)(e:(execOp (dT tmps) o).run P w=.halt (.panic v) w'):
 step P (lone (F.mk' tmps dfs (.inRegion ops (i::rest)::k)) cs w)=.next (lone {F.mk' tmps dfs (.inRegion ops (i::rest)::k)with mode:=.panicking [{v,recovered:=false}]} cs w'):=
 step_lone_go (by rw [qh a b d];simp [stepG.apply,e,Frame.raise,FC.mk'])
theorem yq(a:ops[i]? =some o)(d:Region.wanted o (yielded ops tmps)=true)(b:F.round=none)(e:(execOp (dT tmps) o).run P w=.ok .recover w')
 (f:tryRecover (F.mk' tmps dfs (.inRegion ops (i::rest)::k)) cs=none):
 step P (lone (F.mk' tmps dfs (.inRegion ops (i::rest)::k)) cs w)=.next (lone (F.mk' (iA tmps o.dst .nilIface) dfs (.inRegion ops rest::k)) cs w'):=by
 have:F.mk' (iA tmps o.dst .nilIface) dfs (.inRegion ops rest::k)=(F.mk' tmps dfs (.inRegion ops (i::rest)::k)).finish .nilIface:=by rw [mC,a];rfl
 rw [this];have c:(F.mk' tmps dfs (.inRegion ops (i::rest)::k)).roundOf=none:=b;exact step_lone_go (by simp_all[qh,stepG.apply])
theorem yy(b:ops[i]? =some o)(e:Region.wanted o (yielded ops tmps)=true)(c:F.round=none)(f:(execOp (dT tmps) o).run P w=.ok .recover w'){a:List Frame}
 (g:tryRecover (F.mk' tmps dfs (.inRegion ops (i::rest)::k)) cs=some (v,a)):
 step P (lone (F.mk' tmps dfs (.inRegion ops (i::rest)::k)) cs w)=.next (lone (F.mk' (iA tmps o.dst v) dfs (.inRegion ops rest::k)) a w'):=by
 have:F.mk' (iA tmps o.dst v) dfs (.inRegion ops rest::k)=(F.mk' tmps dfs (.inRegion ops (i::rest)::k)).finish v:=by rw [mC,b];rfl
 rw [this];have d:(F.mk' tmps dfs (.inRegion ops (i::rest)::k)).roundOf=none:=c;exact step_lone_go (by simp_all[qh,stepG.apply])
end op
structure LeaveP(P:Program)(fr:Frame)(kind:CallKind)(v:Value):Prop where
 mode:fr.mode=.panicking [{v,recovered:=false}]
 defers:fr.defers=[]
 kind:fr.kind=kind
 fn: ∃fn,P.funcs[fr.fn]? =some fn
theorem Bd{a c:Frame}(h:ss P a w .normal v):step P (lone a (c::cs) w)=.next (lone (c.finish v) cs w):=by obtain⟨d,hf,b⟩:=h.res;exact step_lone_go (by simp [stepG,unwind,doReturn,h.mode,h.defers,h.kind,hf,b])
theorem oQ{b c:Frame}{a:CallKind}(h:LeaveP P b a v):step P (lone b (c::cs) w)=.next (lone (c.raise [{v,recovered:=false}]) cs w):=by obtain⟨d,hf⟩:=h.fn;exact step_lone_go (by simp [stepG,unwind,Frame.catches,h.mode,h.defers,hf])
end steps
section
variable{P:Program}{F:FC}{tmps:Array Value}{dfs:List Deferred}{k:List Item}{cs:List Frame}{w:World}
def setW(w:World)(c:Nat)(o:Obj):World:={w with heap:=w.heap.setIfInBounds c o}
def Plain:Obj->Prop
 | .cells .. =>False|_=>True
theorem qJ{o q:Obj}(a:w.heap[c]? =some q)(hq:Plain q):(setObj c o).run P w=.ok () (setW w c o):=by cases q<;>first|exact hq.elim|simp [setObj,Sem.run,a,setW]
theorem yD{q:Obj}(a:w.heap[c]? =some q)(hq:Plain q):(getObj c).run P w=.ok q w:=by cases q<;>first|exact hq.elim|simp [getObj,Sem.run,a]
theorem mY{r:Loop}(a:w.heap[c]? =some (.loop r)):(Instr.getLoop c).run P w=.ok r w:=by unfold Instr.getLoop;simp only [Sem.run_bind,yD a trivial,Result.andThen_ok,Sem.run_pure]
theorem ze{r:Loop}(a:w.heap[c]? =some (.loop r))(b:r.state=.ready):
 (Instr.beginRound c).run P w=.ok () (setW w c (.loop {r with state:=.busy})):=by
 unfold Instr.beginRound;simp only [Sem.run_bind,mY a,Result.andThen_ok,qJ a trivial,b,Sem.run_pure]
theorem Bb{r:Loop}(b:w.heap[c]? =some (.loop r))(a:Option Code):
 (Instr.endRound c a).run P w=.ok (.bool a.isNone) (setW w c (.loop {r with state:=if a.isNone then .ready else .done,pending:=a})):=by
 unfold Instr.endRound;simp only [Sem.run_bind,mY b,Result.andThen_ok,qJ b trivial,Sem.run_pure]
theorem Dl{r:Loop}(a:w.heap[c]? =some (.loop r))(b:r.state≠ .busy):
 (Instr.endLoop c).run P w=.ok r.pending (setW w c (.loop {r with state:=.exhausted})):=by
 unfold Instr.endLoop;have:(r.state==LoopState.busy)=false:=by grind
 simp only [Sem.run_bind,mY a,Result.andThen_ok,this,Xa,if_false,qJ a trivial,Sem.run_pure]
theorem xJ{a:List Deferred}(b:w.heap[c]? =some (.deferred (some a))):
 (Instr.takeDeferred c).run P w=.ok a (setW w c (.deferred none)):=by
 unfold Instr.takeDeferred;simp only [Sem.run_bind,yD b trivial,Result.andThen_ok,qJ b trivial,Sem.run_pure]
theorem AB(a:F.round=some c){r:Loop}(b:w.heap[c]? =some (.loop r))(d:r.state=.ready):
 step P (lone (F.mk' tmps dfs (.beginRound::k)) cs w)=.next (lone (F.mk' tmps dfs k) cs (setW w c (.loop {r with state:=.busy}))):=by
 refine step_lone_go ?_;simp_all[ze,stepG,stepG.exec,stepG.apply,FC.mk',Frame.finish]
def Cl(todo:List Item)(a:Option Code):Prop:=
 (todo=[]/\a=none)\/(∃b,todo=.code .ret::b/\a=some .ret)\/(∃id b,todo=.code (.exit id)::b/\exitTo id b=none/\a=some (.exit id))
theorem AG(b:F.round=some c)(d:F.kind=.normal){r:Loop}(f:w.heap[c]? =some (.loop r)){todo:List Item}{a:Option Code}(g:Cl todo a){c0:Frame}:
 step P (lone (F.mk' tmps dfs todo) (c0::cs) w)=
  .next (lone (c0.finish (.bool a.isNone)) cs (setW w c (.loop {r with state:=if a.isNone then .ready else .done,pending:=a}))):=by
 refine step_lone_go ?_;have e:=Bb (P:=P) f a;rcases g with⟨rfl,rfl⟩|⟨h,rfl,rfl⟩|⟨id,h,rfl,i,rfl⟩
 . simp [stepG,stepG.exec,FC.mk',b,e,doReturn,d]
 . simp [stepG,stepG.exec,FC.mk',b,e,doReturn,d]
 simp_all[stepG,stepG.exec,FC.mk',doReturn]
theorem Es(a:F.round=none){todo:List Item}(c:todo=[]\/ ∃b,todo=.code .ret::b):
 step P (lone (F.mk' tmps dfs todo) cs w)=.next (lone {F.mk' tmps dfs todo with mode:=.returning} cs w):=by
 refine step_lone_go ?_;rcases c with rfl|⟨b,rfl⟩
 . simp [stepG,stepG.exec,FC.mk',a]
 . simp [stepG,stepG.exec,FC.mk',a]
theorem CR{r:Loop}(a:w.heap[c]? =some (.loop r))(b:r.state≠ .busy):
 step P (lone (F.mk' tmps dfs (.endRangeFunc c::k)) cs w)=.next (lone (F.mk' tmps dfs ((r.pending.map Item.code).toList++k)) cs (setW w c (.loop {r with state:=.exhausted}))):=by
 refine step_lone_go ?_;simp_all[Dl,stepG,stepG.exec,FC.mk']
def oO(w:World)(o:Obj):World:={w with heap:=w.heap.push o}
theorem yj{o:Obj}:(newObj o).run P w=.ok w.heap.size (oO w o):=by rfl
theorem Bz{params:Array Tmp}{assign body:Code}:
 (Instr.enterLoop F.fn tmps params assign body none).run P w=.ok (w.heap.size+1,[{target:=.collected w.heap.size,args:=#[]}])
  (oO (oO w (.deferred (some []))) (.loop {state:=.ready,pending:=none,fn:=F.fn,tmps,params,assign,body,defers:=w.heap.size})):=by
 unfold Instr.enterLoop;simp only [Sem.run_bind,yj,Result.andThen_ok,Sem.run_pure];simp [oO]
theorem yd{r:Loop}(a:w.heap[c]? =some (.loop r)){params:Array Tmp}{assign body:Code}:
 (Instr.enterLoop F.fn tmps params assign body (some c)).run P w=.ok (w.heap.size,[])
  (oO w (.loop {state:=.ready,pending:=none,fn:=F.fn,tmps,params,assign,body,defers:=r.defers})):=by
 unfold Instr.enterLoop;simp only [Sem.run_bind,yj,Result.andThen_ok,Sem.run_pure,mY a]
theorem st_range{f:Operand}{params:Array Tmp}{assign body:Code}{g:FuncId}{x y:Array Value}(hf:dT tmps f=.func (.func g) x y)
 (e: ∀args w,(callFunc g args).run P w=.ok (.enter g args) w)  {mark:List Deferred} {b:World}
 (h0:(Instr.enterLoop F.fn tmps params assign body F.round).run P w=.ok (c,mark) b):
 step P (lone (F.mk' tmps dfs (.code (.rangeFunc f params assign body)::k)) cs w)=
  .next (lone (Frame.enter P g (x++#[.func (.yield c) #[] #[]]++y) .normal) (F.mk' tmps (mark++dfs) (.inRangeFunc c::k)::cs) b):=by
 refine step_lone_go ?_;have h:=zC (F:=F) (tmps:=tmps) (dfs:=mark++dfs) (.inRangeFunc c::k);simp only [FC.mk']at h;have i: ∀a,(do let d<-resolve (dT tmps) {callee:=.value f,args:=#[.const (.func (.yield c) #[] #[])],argTypes:=#[]} 0;invoke d.target d.args).run P a=
  .ok (.enter g (x++#[.func (.yield c) #[] #[]]++y)) a:=by
  intro a;simp [resolve,hf,Deferred.ofValue,invoke,e,show∀v,dT tmps (.const v)=v from fun _=>rfl]
 simp_all[stepG,stepG.exec,FC.mk',stepG.apply]
end
end Go.Ab

/- A deterministic evaluator of the model's code, and that the model follows it (part 3). -/
import Derived.Test.YtddjlflghenhkaaGreatDoorKabB
import Derived.Calls
import Derived.RowKit3
open Nat renaming eq_of_beq_eq_true->zM,le_refl->Xb,beq->Xe,le_of_ble_eq_true->Xi,lt_or_ge->Xj,blt->Xl,ble->Xm,le_trans->Xp,lor->Xq
open Bool renaming and_eq_true->zO,not_eq_true'->Xk
open List renaming mem_cons_of_mem->Xa,mem_cons_self->Xc,replicate->Xn,range'->Xr
open Array renaming getD_eq_getD_getElem?->Xd,replicate->Xf,getElem?_eq_getElem->Xg,getElem?_eq_none->Xh,toList_append->Xo
set_option maxHeartbeats 400000
set_option linter.defProp false
set_option linter.unusedVariables false
set_option linter.unusedSimpArgs false
namespace Go.Ab
variable{mu:Mu}
variable{l:Loc}
variable{b c i m n q:Nat}
variable{t:Tr Value}
variable{a v:Value}
variable{P:Program}
variable{cx:Cx}
variable{h h':Hp}
variable{w w':World}
variable{ρ:Operand->Value}
variable{ops:Array Oper}
variable{rest:List Nat}
variable{o p:Oper}
variable{E:Env}
variable{op:Op}
variable{S:Nat->Bool}
def rG(mu:Mu):Option (Value×Bool)->Option (Value×Bool)->Prop
 |none,none=>True|some (v,b),some (a,c)=>b=c/\aw mu v a|_,_=>False
theorem rG.mono{mu c:Mu}(h:Le mu c){a b:Option (Value×Bool)}(k:rG mu a b):rG c a b:=by
 cases a<;>cases b<;>simp only [rG]at*
 exact⟨k.1,k.2.mono h⟩
theorem oP.mono{mu d:Mu}(h:Le mu d){a b:Deferred}(k:oP mu a b):oP d a b:=by
 unfold oP at*
 split
 . grind[VL.mono]
 . rename_i b e;rw [e]at k;obtain⟨c,f,g⟩:=k;exact⟨c,f,g.mono h⟩
 grind
abbrev DL(mu:Mu):=LR (oP mu)
def aX:Option (Value×Bool)->List Frame->List Frame
 |none,a=>a|some (v,b),c::r=>{c with mode:=.panicking [{v,recovered:=b}]}::r
 |some _,[]=>[]
def KOk(a:CallKind)(b:List Frame):Option (Value×Bool)->Prop
 |none=>a=.normal\/(a=.deferred/\ ∃c r,b=c::r/\c.mode=.returning)|some _=>a=.deferred/\b≠ []
def RdRel(mu:Mu):Option Nat->Option Nat->Prop
 |none,none=>True|some b,some c=>dW mu b c|_,_=>False
theorem RdRel.mono{mu c:Mu}(h:Le mu c){a b:Option Nat}(k:RdRel mu a b):RdRel c a b:=by
 cases a<;>cases b<;>simp only [RdRel]at*
 exact k.mono h
theorem ev_rel{tmps:Array Value}(c:jZ mu l.regs n tmps)(x:Operand)
 (a: ∀g,g<16->fK mu ⟨g,0,none⟩ ⟨g,0,none⟩):aw mu (l.ev x) (dT tmps x):=by
 cases x with
 | tmp t=>
   simp only [Loc.ev,dT];cases d:l.regs.get t with
   | none=>
     have:n<=t:=by
      rcases Xj t n with b|b
      . obtain⟨v,e⟩:=Tr.get_some c.sized b;grind
      . exact b
     rw [Xd,Xh (by rw [c.size];exact this)];exact .tuple rfl (by grind)
   | some v=>
     obtain⟨i,b,e⟩:=c.get t v d;simp_all
 | const v=>
   simp only [Loc.ev,dT];cases h:du v with
   |true=>simp only [cond_true];exact aw.const mu h|false=>simp only [cond_false];exact .poison v
 | global g=>
   simp only [Loc.ev,dT];cases j:Xl g 16 with
   |true=>simp only [cond_true];exact .ptr (a g (by simp_all))|false=>simp only [cond_false];exact .poison _
 |func f=>exact .fn rfl (by grind) rfl (by grind)
theorem vI{tmps:Array Value}(a:jZ mu t n tmps)(d:Option Tmp){v':Value}(f:aw mu v v'):
 jZ mu (match d with|none=>t|some d=>t.set d v) n (iA tmps d v'):=by
 cases d with
 |none=>exact a| some d=>
   refine⟨by simp [iA,a.size],Tr.sized_set d v a.sized,fun i u b=>?_⟩;rw [Tr.get_set]at b;simp only [iA];by_cases c:d=i/\(t.get i).isSome
   . rw [if_pos c]at b;cases b;obtain⟨rfl,e⟩:=c;have:d<tmps.size:=(by rw [a.size];exact(a.sized d).1 e);grind
   . rw [if_neg c]at b;obtain⟨g,h,j⟩:=a.get i u b;grind
abbrev ni(mu:Mu):Prop:= ∀g,g<16->fK mu ⟨g,0,none⟩ ⟨g,0,none⟩
theorem ni.mono{mu a:Mu}(h:Le mu a)(k:ni mu):ni a:=fun g b=>(k g b).mono h
structure SR(P:Program)(cx:Cx)(l:Loc)(h:Hp)(mu:Mu)(w:World)(F:FC)(cs0:List Frame)(tmps:Array Value)(dfs:List Deferred)(rcC:Option (Value×Bool)):Prop where
 hr:bg mu h w
 glob:ni mu
 regs:jZ mu l.regs cx.nr tmps
 dfs:DL mu l.dfs dfs
 rc:rG mu l.rc rcC
 ko:KOk F.kind cs0 rcC
 fn:F.fn=cx.fn
 rd:RdRel mu cx.round F.round
 rn:F.round≠none->F.kind=.normal
 fs:(P.funcs[F.fn]?).isSome=true
theorem SR.step{a:Mu}{F:FC}{b:List Frame}{tmps:Array Value}{dfs:List Deferred}{c:Option (Value×Bool)}
 (s:SR P cx l h mu w F b tmps dfs c) (e:bg a h' w') (d:Le mu a):SR P cx l h' a w' F b tmps dfs c:=
 ⟨e,s.glob.mono d,s.regs.mono d,LR.mono s.dfs fun _ _=>oP.mono d,s.rc.mono d,s.ko,s.fn,s.rd.mono d,s.rn,s.fs⟩
theorem SR.put{P:Program}{cx:Cx}{l:Loc}{h:Hp}{mu:Mu}{w:World}{F:FC}{a:List Frame}{tmps:Array Value}{dfs:List Deferred}{b:Option (Value×Bool)}
 (s:SR P cx l h mu w F a tmps dfs b) (d:Option Tmp) {v v':Value} (c:aw mu v v'):SR P cx (l.put d v) h mu w F a (iA tmps d v') dfs b:=by
 cases d with
 |none=>exact s|some d=>exact⟨s.hr,s.glob,vI s.regs (some d) c,s.dfs,s.rc,s.ko,s.fn,s.rd,s.rn,s.fs⟩
def Reach(P:Program)(F:FC)(d:List Frame)(m:Machine)(k:List Item)(g:Mu)(w':World)(a:Array Value)(b:List Deferred)(c:Option (Value×Bool)):Ex->Prop
 | .normal=>Steps P m (lone (F.mk' a b k) (aX c d) w')| .exit id=> ∃f,exitTo id f=exitTo id k/\Steps P m (lone (F.mk' a b (.code (.exit id)::f)) (aX c d) w')| .ret=> ∃f,Steps P m (lone (F.mk' a b (.code .ret::f)) (aX c d) w')| .pan v=> ∃h e,aw g v h/\Steps P m (lone {F.mk' a b e with mode:=.panicking [{v:=h,recovered:=false}]} (aX c d) w')
def Sim(P:Program)(cx:Cx)(h:Hp)(mu:Mu)(w:World)(F:FC)(d:List Frame)(tmps:Array Value)(dfs:List Deferred)(f:Option (Value×Bool))(todo k:List Item)(x:Ex)(l':Loc)(h':Hp):Prop:=
 ∃ e g a b c,SR P cx l' h' e g F d a b c/\Ext mu h w e h' g/\
   Reach P F d (lone (F.mk' tmps dfs todo) (aX f d) w) k e g a b c x
def jW(P:Program)(f:Cx->Code->Loc->Hp->Option (Ex×Loc×Hp)):Prop:=
 ∀ j c l h x m n,f j c l h=some (x,m,n)-> ∀o w F e d g i k a,SR P j l h o w F e d g i->
   (a=.code c::k\/ ∃b,c=.loop b/\a=.inLoop b::k)->Sim P j h o w F e d g i a k x m n
def CallEnd(P:Program)(d:Frame)(w':World)(a:CallKind)(b:Mu):Out->Prop
 | .ret v=> ∃c,ss P d w' a c/\aw b v c| .pan v=> ∃c,LeaveP P d a c/\aw b v c
def iM (E:Env) (P:Program) (f:FuncId->List Value->Option (Value×Bool)->Hp->Option (Out×Option (Value×Bool)×Hp)):Prop:=
 ∀ g i q h o k n,f g i q h=some (o,k,n)->(∃r,E.fn g=some r/\r.body.isSome=true)/\
   ∀ l w b j d a,bg l h w->ni l->VL l i b.toList->rG l q j->KOk a d j->
     ∃ e m c p,bg e n m/\Ext l h w e n m/\rG e k c/\KOk a d c/\
       Steps P (lone (Frame.enter P g b a) (aX j d) w) (lone p (aX c d) m)/\
       CallEnd P p m a e o/\p.fn=g
def OutTo(P:Program)(a:Mu)(m:Machine)(b d:Value->Machine):Out->Prop
 | .ret v=> ∃c,aw a v c/\Steps P m (b c)| .pan v=> ∃c,aw a v c/\Steps P m (d c)
def Cm(P:Program)(F:FC)(d:List Frame)(m:Machine)(ops:Array Oper)(rest:List Nat)(k:List Item)(e:Mu)(w':World)(a:Array Value)(b:List Deferred)(c:Option (Value×Bool)):Ex->Prop
 | .normal=>Steps P m (lone (F.mk' a b (.inRegion ops rest::k)) (aX c d) w')| .pan v=>Reach P F d m k e w' a b c (.pan v)|_=>False
theorem KOk.normal{b:List Frame}{a:Option (Value×Bool)}(h:KOk .normal b a):a=none:=by
 cases a with
 |none=>rfl|some x=>exact absurd h.1 (by simp)
theorem sT(f:bg mu h w)(a:dW mu b c){r:fS}(j:h.get b=some (.loop r)):
 ∃top d,mu b=.blk c 0 top/\w.heap[c]? =some (.loop d)/\oH mu r d:=by
 unfold dW at a;cases e:mu b with
 |none=>grind|dead=>have:=f.dead _ e;grind| blk l g top=>
   rw [e]at a;obtain⟨rfl,rfl⟩:=a;obtain⟨y,o,i,m,k⟩:=f.blk _ c 0 top e;rw [j]at i;cases i;obtain⟨_,d,rfl,n⟩:=k;grind
theorem uS{o q:Obj}(h:w.heap[c]? =some q):WSet w (setW w c o) c o:=BL ⟨_,h⟩
theorem Bf(e:bg mu h w){top:Nat}(f:mu b=.blk c 0 top){r d:fS}(k:h.get b=some (.loop r)){g a:Loop}(i:w.heap[c]? =some (.loop g))(j:oH mu d a):
 bg mu (h.put b (.loop d)) (setW w c (.loop a))/\Ext mu h w mu (h.put b (.loop d)) (setW w c (.loop a)):=
 wX e f (by grind) (uS i) ⟨rfl,a,rfl,j⟩
theorem ue{mu:Mu}{n:Nat}: ∀(ps:List Tmp) (args args':List Value) (a:Tr Value) (tmps:Array Value) (b:Tr Value),p8 a ps args=some b->jZ mu a n tmps->VL mu args args'->
 ps.length=args'.length/\jZ mu b n ((ps.zip args').foldl (fun tmps (x:Tmp×Value)=>tmps.setIfInBounds x.1 x.2) tmps)
 | [],[],args',a,tmps,b,h,c,d=>by
   rw [d.nil_left];cases h;exact⟨rfl,c⟩
 | [],_::_,_,_,_,_,h,_,_=>by cases h
 |_::_,[],_,_,_,_,h,_,_=>by cases h
 | t::ts,v::vs,args',a,tmps,b,h,c,d=>by obtain⟨v',e,rfl,f,g⟩:=d.cons_left;have i:=vI c (some t) f;obtain⟨j,k⟩:=ue ts vs e (a.set t v) (tmps.setIfInBounds t v') b h i g;exact⟨by simp [j],k⟩
section
variable{E:Env}{P:Program}(ok:EOk E P){R:Rec}(hc:iM E P R.call)(hcode:jW P R.code)
theorem yield_run{r:Loop}(a:w.heap[c]? =some (.loop r)){args:Array Value}(d:r.params.toList.length=args.toList.length):
 (Instr.yield c args).run P w=.ok (.round c r.fn ((r.params.toList.zip args.toList).foldl (fun tmps (x:Tmp×Value)=>tmps.setIfInBounds x.1 x.2) r.tmps) r.assign r.body) w:=by
 unfold Instr.yield;have b:args.size=r.params.size:=by grind
 simp only [Sem.run_bind,mY a,Result.andThen_ok,b,ne_eq,not_true_eq_false,if_false,Sem.run_pure];rw [<-Array.foldl_toList,Array.toList_zip]
include ok hcode in
theorem round_sim    (hh:bg mu h w) (hg:ni mu)  (hp:dW mu b c) {args:List Value} {args':Array Value} (ha:VL mu args args'.toList) {W:Out}
 (g:kj E R b args h=some (W,h')) (c0:Frame) (cs:List Frame):
 ∃ f tm x y,(Instr.yield c args').run P w=.ok (.round c f tm x y) w/\ ∃u w',bg u h' w'/\Ext mu h w u h' w'/\
   OutTo P u (lone (Frame.round c f tm x y .normal) (c0::cs) w) (fun v'=>lone (c0.finish v') cs w') (fun v'=>lone (c0.raise [{v:=v',recovered:=false}]) cs w') W:=by
 unfold kj at g
 split at g
 next r X=>
  obtain⟨bh,l,hm,hw,q⟩:=sT hh hp X;cases aL:(E.fn r.fn).isSome with
  |false=>grind|true=>
  rw [aL]at g;simp only [cond_true]at g
  split at g
  next Y=>
   split at g
   next=>cases g
   next S U=>
    obtain⟨a0,a1⟩:=ue r.params.toList args args'.toList r.regs l.tmps S U q.regs ha;have hy:=yield_run (P:=P) hw (args:=args') (by rw [q.params];exact a0);refine⟨_,_,_,_,hy,?_⟩
    let F:FC:=⟨l.fn,.normal,some c⟩
    have Z:(P.funcs[l.fn]?).isSome=true:=by
     rw [q.fn];cases he:E.fn r.fn with
     |none=>grind|some fn=>rw [ok.fn _ _ he];rfl
    have sr:SR P ⟨r.fn,r.nr,some b⟩ ⟨S,[],none⟩ h mu w F (c0::cs) ((l.params.toList.zip args'.toList).foldl (fun tmps (x:Tmp×Value)=>tmps.setIfInBounds x.1 x.2) l.tmps) [] none:=
     ⟨hh,hg,by rw [q.params];exact a1,LR.nil,trivial,.inl rfl,q.fn,hp,fun _=>rfl,Z⟩
    split at g
    next l1 h1 K=>
     obtain⟨z,w1,A,D,bi,G,e1,s1⟩:=hcode _ _ _ _ _ _ _ K mu w F (c0::cs) _ [] none [.beginRound,.code l.body] [.code l.assign,.beginRound,.code l.body] sr (.inl (by rw [q.assign]));have ad:=G.ko.normal;subst ad
     split at g
     next r1 H=>
      obtain⟨be,C,a2,af,m⟩:=sT G.hr (show dW z b c from G.rd) H
      split at g
      next ai=>
       have L:C.state=.ready:=(by have:=m.st;rw [ai]at this;cases hs:C.state<;>rw [hs]at this<;>first|rfl|cases this);have b1:=AB (P:=P) (F:=F) (tmps:=A) (dfs:=D) (k:=[.code l.body]) (cs:=c0::cs) (c:=c) rfl af L;have a3:oH z {r1 with st:=1} {C with state:=.busy}:=⟨m.fn,m.regs,m.params,m.assign,m.body,rfl,m.pending⟩;obtain⟨a4,e2⟩:=Bf G.hr a2 H af a3;have M:=G.step a4 (Le.refl _);have e12:=Ext.trans e1 e2;have ak:Steps P (lone (Frame.round c l.fn ((l.params.toList.zip args'.toList).foldl (fun tmps (x:Tmp×Value)=>tmps.setIfInBounds x.1 x.2) l.tmps) l.assign l.body .normal) (c0::cs) w)
        (lone (F.mk' A D [.code l.body]) (c0::cs) (setW w1 c (.loop {C with state:=.busy}))):=Steps.trans s1 (.one b1)
       have B: ∀{J:Hp} {i:Mu} {N:World} {d:Array Value} {n:List Deferred} {s:List Item} {j:Option Code} {T:fS} {pe:Option Code} {st:Nat},bg i J N->dW i b c->J.get b=some (.loop T)->
        Ext z (h1.put b (.loop {r1 with st:=1})) (setW w1 c (.loop {C with state:=.busy})) i J N->
        Steps P (lone (F.mk' A D [.code l.body]) (c0::cs) (setW w1 c (.loop {C with state:=.busy}))) (lone (F.mk' d n s) (c0::cs) N)->
        Cl s j->pe=j->st=(if j.isNone then 0 else 2)->
        ∃ u w',bg u (J.put b (.loop {T with st:=st,pending:=pe})) w'/\Ext mu h w u (J.put b (.loop {T with st:=st,pending:=pe})) w'/\
          ∃v',aw u (.bool j.isNone) v'/\Steps P (lone (Frame.round c l.fn ((l.params.toList.zip args'.toList).foldl (fun tmps (x:Tmp×Value)=>tmps.setIfInBounds x.1 x.2) l.tmps) l.assign l.body .normal) (c0::cs) w) (lone (c0.finish v') cs w'):=by
        intro J i N d n s j T pe st al a5 I O Q a6 a7 Y;obtain⟨bf,a8,ba,ax,t⟩:=sT al a5 I;have b3:=AG (P:=P) (F:=F) (tmps:=d) (dfs:=n) (cs:=cs) (c:=c) rfl rfl ax a6 (c0:=c0);have bb:oH i {T with st:=st,pending:=pe} {a8 with state:=if j.isNone then .ready else .done,pending:=j}:=
         ⟨t.fn,t.regs,t.params,t.assign,t.body,by subst Y;cases j<;>rfl,a7.symm⟩
        obtain⟨bc,e4⟩:=Bf al ba I ax bb;exact⟨i,_,bc,Ext.trans e12 (Ext.trans O e4),_,.bool _,Steps.trans ak (Steps.trans Q (.one b3))⟩
       split at g
       next l3 J a=>
        obtain⟨i,N,d,n,V,e,O,Q⟩:=hcode _ _ _ _ _ _ _ a z _ F (c0::cs) _ _ none [] [.code l.body] M (.inl (by rw [q.body]));have o:=e.ko.normal;subst o
        split at g
        next T p=>
         cases g;exact B e.hr (show dW i b c from e.rd) p O Q (.inl ⟨rfl,rfl⟩) rfl rfl
        next=>cases g
       next id l3 J a=>
        obtain⟨i,N,d,n,V,e,O,k0,bd,Q⟩:=hcode _ _ _ _ _ _ _ a z _ F (c0::cs) _ _ none [] [.code l.body] M (.inl (by rw [q.body]));have o:=e.ko.normal;subst o
        split at g
        next T p=>
         cases g;exact B e.hr (show dW i b c from e.rd) p O Q (.inr (.inr ⟨id,k0,rfl,bd.trans rfl,rfl⟩)) rfl rfl
        next=>cases g
       next l3 J a=>
        obtain⟨i,N,d,n,V,e,O,k0,Q⟩:=hcode _ _ _ _ _ _ _ a z _ F (c0::cs) _ _ none [] [.code l.body] M (.inl (by rw [q.body]));have o:=e.ko.normal;subst o
        split at g
        next T p=>
         cases g;exact B e.hr (show dW i b c from e.rd) p O Q (.inr (.inl ⟨k0,rfl,rfl⟩)) rfl rfl
        next=>cases g
       next v l3 J a=>
        obtain⟨i,N,d,n,V,e,O,v',s,hv,Q⟩:=hcode _ _ _ _ _ _ _ a z _ F (c0::cs) _ _ none [] [.code l.body] M (.inl (by rw [q.body]));have o:=e.ko.normal;subst o
        split at g
        next hd=>
         cases g;have ay:=e.dfs;rw [hd]at ay;have:=LR.nil_left ay;subst this;have lv:LeaveP P {F.mk' d [] s with mode:=.panicking [{v:=v',recovered:=false}]} .normal v':=⟨rfl,rfl,rfl,by
          obtain⟨fn,h⟩:=Option.isSome_iff_exists.1 Z;exact⟨fn,h⟩⟩
         exact⟨i,N,e.hr,Ext.trans e12 O,v',hv,Steps.trans ak (Steps.trans Q (.one (oQ lv)))⟩
        next=>cases g
       next=>cases g
      next=>cases g
     next=>cases g
    next=>cases g
  next=>cases g
 next=>cases g
end
section
variable{E:Env}{P:Program}(ok:EOk E P){R:Rec}(hc:iM E P R.call)(hcode:jW P R.code)
include ok hc hcode in
theorem uG    (A:bg mu h w) (Q:ni mu)  {tmps:Array Value} (I: ∀x,aw mu (ρ x) (dT tmps x)) {F:FC} {dfs:List Deferred} {k:List Item} {cs:List Frame}
     (u:ops[i]? =some o) (B:Region.wanted o (yielded ops tmps)=true) {m:Out} (e:dB E R (aop E ρ h o.op)=some (m,h')):
 ∃ a w',bg a h' w'/\Ext mu h w a h' w'/\
   OutTo P a (lone (F.mk' tmps dfs (.inRegion ops (i::rest)::k)) cs w) (fun v'=>lone (F.mk' (iA tmps o.dst v') dfs (.inRegion ops rest::k)) cs w')
    (fun v'=>lone {F.mk' tmps dfs (.inRegion ops (i::rest)::k)with mode:=.panicking [{v:=v',recovered:=false}]} cs w') m:=by
 have C:F.round=none\/ ∀c,o.op≠ .defer c:=by
  right;intro c J;rw [J]at e;simp only [aop]at e
  split at e
  . split at e<;>cases e
  . cases e
 have D: ∀v,(F.mk' tmps dfs (.inRegion ops (i::rest)::k)).finish v=F.mk' (iA tmps o.dst v) dfs (.inRegion ops rest::k):=by intro v;rw [mC,u];rfl
 cases K:aop E ρ h o.op with
 |none=>rw [K]at e;cases e
 | some q=>
   obtain⟨V,h1⟩:=q;rw [K]at e;have g:=aop_run (P:=P) ok A I (o:=o) K;cases V with
   | val v=>
     cases e;obtain⟨v',a,w',n,p,G,W⟩:=g;exact⟨a,w',p,G,v',W,.one (Bp u B C n)⟩
   | skip=>
     cases e;obtain⟨a,w',n,p,G⟩:=g;exact⟨a,w',p,G,undef,.tuple rfl (by grind),.one (st_opskip u B C n)⟩
   | call f H=>
     obtain⟨rfl,j,n,p⟩:=g;simp only [dB]at e
     split at e
     next x X h2 r=>
      cases e;obtain⟨⟨Y,L,s⟩,Z⟩:=hc _ _ _ _ _ _ _ r;obtain⟨a,w',S,fr,M,N,O,k4,T,U,_⟩:=Z mu w j none (F.mk' tmps dfs (.inRegion ops (i::rest)::k)::cs) .normal A Q p trivial (.inl rfl);have:=k4.normal;subst this;have l:=st_enter (P:=P) (F:=F) (dfs:=dfs) (k:=k) (cs:=cs) (rest:=rest) u B C (n.trans (ok.call f Y j w L s));refine⟨a,w',M,N,?_⟩;cases m with
      | ret v=>
        obtain⟨v',z,t⟩:=U;refine⟨v',t,Steps.trans (.one l) (Steps.trans T (.one ?_))⟩;show step P _=.next (lone (F.mk' (iA tmps o.dst v') dfs (.inRegion ops rest::k)) cs w')
        rw [<-D];exact Bd z
      | pan v=>
        obtain⟨v',z,t⟩:=U;exact⟨v',t,Steps.trans (.one l) (Steps.trans T (.one (oQ z)))⟩
     next=>cases e
   | yield b H=>
     obtain⟨rfl,c,j,n,p,G⟩:=g;simp only [dB]at e;obtain⟨f,tm,x,y,y1,a,w',M,N,O⟩:=round_sim ok hcode A Q p G e (F.mk' tmps dfs (.inRegion ops (i::rest)::k)) cs;have l:=st_round (P:=P) (F:=F) (dfs:=dfs) (k:=k) (cs:=cs) (rest:=rest) u B C (n.trans y1);refine⟨a,w',M,N,?_⟩;cases m with
     | ret v=>
       obtain⟨v',t,z⟩:=O;refine⟨v',t,Steps.trans (.one l) ?_⟩;grind
     | pan v=>
       obtain⟨v',t,z⟩:=O;exact⟨v',t,Steps.trans (.one l) z⟩
   | panic v=>
     cases e;obtain⟨rfl,v',n,p⟩:=g;exact⟨mu,w,A,Ext.refl mu _ w A,v',p,.one (st_panic u B C n)⟩
   |recov=>cases e
   |defer d=>cases e
include ok hc hcode in
theorem D8  {l':Loc}    {F:FC} {e:List Frame} {tmps:Array Value} {dfs:List Deferred} {g:Option (Value×Bool)} (s:SR P cx l h mu w F e tmps dfs g)
 {k:List Item}     (L:ops[i]? =some o) (M:Region.wanted o (yielded ops tmps)=true) {x:Ex} (t:eY E R cx o l h=some (x,l',h')):
 ∃ j w' a m n,SR P cx l' h' j w' F e a m n/\Ext mu h w j h' w'/\
   Cm P F e (lone (F.mk' tmps dfs (.inRegion ops (i::rest)::k)) (aX g e) w) ops rest k j w' a m n x:=by
 have H: ∀x,aw mu (l.ev x) (dT tmps x):=fun x=>ev_rel s.regs x s.glob;unfold eY at t;have Q: ∀{r:Option (dM×Hp)},aop E l.ev h o.op=r->pQ o l (dB E R r)=some (x,l',h')-> ∃j w' a m n,SR P cx l' h' j w' F e a m n/\Ext mu h w j h' w'/\
  Cm P F e (lone (F.mk' tmps dfs (.inRegion ops (i::rest)::k)) (aX g e) w) ops rest k j w' a m n x:=by
  intro r B t;cases C:dB E R r with
  |none=>rw [C]at t;cases t
  | some q=>
    obtain⟨S,N⟩:=q;rw [C]at t;rw [<-B]at C;obtain⟨j,w',G,I,X⟩:=uG ok hc hcode s.hr s.glob H (F:=F) (dfs:=dfs) (k:=k) (cs:=aX g e) (rest:=rest) L M C;have Y:=s.step G (I.le s.hr);cases S with
    | ret v=>
      cases t;obtain⟨v',T,U⟩:=X;exact⟨j,w',_,dfs,g,Y.put o.dst T,I,U⟩
    | pan v=>
      cases t;obtain⟨v',T,U⟩:=X;exact⟨j,w',tmps,dfs,g,Y,I,v',_,T,U⟩
 cases Z:aop E l.ev h o.op with
 |none=>grind| some q =>
   obtain⟨nx,N⟩:=q;rw [Z]at t;have A:=aop_run (P:=P) ok s.hr H (o:=o) Z;cases nx with
   |val v=>grind|skip=>grind|call f J=>grind|yield b J=>grind|panic v=>grind| recov =>
     obtain⟨rfl,G⟩:=A;simp only []at t;cases B:cx.round with
     |some r=>grind| none=>
       rw [B]at t;simp only []at t;have O:F.round=none:=by
        have:=s.rd;rw [B]at this;cases hf:F.round with
        |none=>rfl|some c=>rw [hf]at this;exact this.elim
       have u:=s.rc;have p:tryRecover (F.mk' tmps dfs (.inRegion ops (i::rest)::k)) (aX g e)=none->
        ∃ j w' a m n,SR P cx (l.put o.dst .nilIface) N j w' F e a m n/\Ext mu N w j N w'/\
          Steps P (lone (F.mk' tmps dfs (.inRegion ops (i::rest)::k)) (aX g e) w) (lone (F.mk' a m (.inRegion ops rest::k)) (aX n e) w'):=by
        intro V;exact⟨mu,w,_,dfs,g,s.put o.dst .nili,Ext.refl mu _ w s.hr,.one (yq L M O G V)⟩
       cases K:l.rc with
       | none=>
         rw [K]at t u;cases t;apply p;cases g with
         |some y=>exact u.elim| none=>
           rcases s.ko with D|⟨D,c,r,rfl,hm⟩
           . simp [tryRecover,FC.mk',D]
           . simp [tryRecover,FC.mk',D,aX,hm]
       | some y =>
         obtain⟨v,b⟩:=y;rw [K]at t u;cases g with
         |none=>exact u.elim| some z=>
           obtain⟨v',b'⟩:=z;obtain⟨rfl,C⟩:=u;obtain⟨D,ad⟩:=s.ko;cases e with
           |nil=>grind| cons c r=>
             cases b with
             | true=>
               cases t;apply p;simp [tryRecover,FC.mk',D,aX]
             | false=>
               cases t;have V:tryRecover (F.mk' tmps dfs (.inRegion ops (i::rest)::k)) (aX (some (v',false)) (c::r))=some (v',aX (some (v',true)) (c::r)):=(by simp [tryRecover,FC.mk',D,aX]);have W:SR P cx {l with rc:=some (v,true)} h' mu w F (c::r) tmps dfs (some (v',true)):=
                ⟨s.hr,s.glob,s.regs,s.dfs,⟨rfl,C⟩,⟨D,by simp⟩,s.fn,s.rd,s.rn,s.fs⟩
               exact⟨mu,w,_,dfs,_,W.put o.dst C,Ext.refl mu _ w s.hr,.one (yy L M O G V)⟩
   | defer d=>
     obtain⟨rfl,d',G,I⟩:=A;simp only []at t;cases B:cx.round with
     |some r=>grind| none=>
       rw [B]at t;cases t;have O:F.round=none:=by
        have:=s.rd;rw [B]at this;cases hf:F.round with
        |none=>rfl|some c=>rw [hf]at this;exact this.elim
       have W:SR P cx {l with dfs:=d::l.dfs} h' mu w F e tmps (d'::dfs) g:=
        ⟨s.hr,s.glob,s.regs,LR.cons I s.dfs,s.rc,s.ko,s.fn,s.rd,s.rn,s.fs⟩
       exact⟨mu,w,_,_,g,W.put o.dst (v':=undef) (.tuple rfl (by grind)),Ext.refl mu _ w s.hr,.one (st_defer L M O G)⟩
omit ok in
theorem zI     {tmps:Array Value} (h:jZ mu t n tmps)  {b:Bool} (a:cJ ops.toList t o=some b):Region.wanted o (yielded ops tmps)=b:=by
 unfold cJ at a;unfold Region.wanted;cases c:o.guard with
 |none=>grind| some q=>
   obtain⟨j,i⟩:=q;rw [c]at a;simp only []at a⊢;unfold yielded;cases k:ops[j]? with
   |none=>grind| some l=>
     rw [Array.getElem?_toList,k]at a;simp only [Option.bind_some]at a⊢;cases m:l.dst with
     |none=>grind| some d=>
       rw [m]at a;simp only [Option.bind_some]at a⊢
       split at a
       next r e=>
        obtain⟨p,f,g⟩:=h.get d _ e;cases g;rw [f];cases a;grind
       next x e=>
        obtain⟨p,f,g⟩:=h.get d _ e;rw [f];cases a;cases g;rfl
       next=>cases a
include ok hc hcode in
theorem Av   {F:FC} {p:List Frame} {k:List Item}: ∀(os:List Oper) (i:Nat) (l l':Loc) (h h':Hp) (mu:Mu) (w:World) (tmps:Array Value) (dfs:List Deferred) (e:Option (Value×Bool)) (x:Ex),
 ops.toList.drop i=os->SR P cx l h mu w F p tmps dfs e->je E R cx ops.toList os l h=some (x,l',h')->
 Sim P cx h mu w F p tmps dfs e (.inRegion ops (Xr i os.length)::k) k x l' h':=by
 intro os
 induction os with
 | nil=>
   intro i l l' h h' mu w tmps dfs e x B s f;simp only [je]at f;cases f;exact⟨mu,w,tmps,dfs,e,s,Ext.refl mu h w s.hr,.one qo⟩
 | cons o os J=>
   intro i l l' h h' mu w tmps dfs e x B s f;have K:ops[i]? =some o:=(by have:=congrArg (·[0]?) B;simpa using this);have y:ops.toList.drop (i+1)=os:=(by have:=congrArg (List.drop 1) B;simpa [Nat.add_comm]using this);simp only [je]at f;rw [List.length_cons,List.range'_succ];cases L:cJ ops.toList l.regs o with
   |none=>grind| some b=>
     have Q:=zI s.regs L;rw [L]at f;cases b with
     | false=>
       simp only []at f;have c:=yk (P:=P) (F:=F) (tmps:=tmps) (dfs:=dfs) (k:=k) (cs:=aX e p) (w:=w) (ops:=ops) (i:=i) (rest:=Xr (i+1) os.length) (by grind);rw [K]at c;obtain⟨r,C,d,g,j,D,G,m⟩:=J (i+1) _ _ _ _ _ _ _ _ _ _ y (s.put o.dst (v':=undef) (.tuple rfl (by grind))) f;refine⟨r,C,d,g,j,D,G,?_⟩;cases x with
       |normal=>exact .head c m|exit id=>obtain⟨t,a,b⟩:=m;exact⟨t,a,.head c b⟩
       |ret=>obtain⟨t,b⟩:=m;exact⟨t,.head c b⟩
       |pan v=>obtain⟨v',H,a,b⟩:=m;exact⟨v',H,a,.head c b⟩
     | true=>
       simp only []at f;cases M:eY E R cx o l h with
       |none=>grind| some q=>
         obtain⟨S,U,V⟩:=q;rw [M]at f;obtain⟨I,T,u,z,A,N,O,n⟩:=D8 ok hc hcode s (k:=k) (rest:=Xr (i+1) os.length) K Q M;cases S with
         | normal=>
           simp only []at f n;obtain⟨r,C,d,g,j,D,G,m⟩:=J (i+1) _ _ _ _ _ _ _ _ _ _ y N f;refine⟨r,C,d,g,j,D,Ext.trans O G,?_⟩;cases x with
           |normal=>exact Steps.trans n m|exit id=>obtain⟨t,a,b⟩:=m;exact⟨t,a,Steps.trans n b⟩
           |ret=>obtain⟨t,b⟩:=m;exact⟨t,Steps.trans n b⟩
           |pan v=>obtain⟨v',H,a,b⟩:=m;exact⟨v',H,a,Steps.trans n b⟩
         |exit id=>exact n.elim|ret=>exact n.elim| pan v=>
           cases f;exact⟨I,T,u,z,A,N,O,n⟩
end
theorem Reach.pre{F:FC}{f:List Frame}{m m1:Machine}{k:List Item}{g:Mu}{c:Array Value}{d:List Deferred}{e:Option (Value×Bool)}{x:Ex}
 (h:Steps P m m1) (r:Reach P F f m1 k g w' c d e x):Reach P F f m k g w' c d e x:=by
 cases x with
 |normal=>exact Steps.trans h r|exit id=>obtain⟨i,a,b⟩:=r;exact⟨i,a,Steps.trans h b⟩
 |ret=>obtain⟨i,b⟩:=r;exact⟨i,Steps.trans h b⟩
 |pan v=>obtain⟨j,l,a,b⟩:=r;exact⟨j,l,a,Steps.trans h b⟩
theorem Sim.pre{P:Program}{cx:Cx}{h t:Hp}{mu m:Mu}{w q:World}{F:FC}{g:List Frame}{tmps d:Array Value}{dfs i:List Deferred}{n j:Option (Value×Bool)}{todo f k:List Item}{x:Ex}{l':Loc}{h':Hp}
 (u:Steps P (lone (F.mk' tmps dfs todo) (aX n g) w) (lone (F.mk' d i f) (aX j g) q)) (e:Ext mu h w m t q)
 (s:Sim P cx t m q F g d i j f k x l' h'):Sim P cx h mu w F g tmps dfs n todo k x l' h':=by
 obtain⟨r,v,l,o,p,a,b,c⟩:=s;exact⟨r,v,l,o,p,a,Ext.trans e b,c.pre u⟩
theorem Reach.out{F:FC}{f:List Frame}{m:Machine}{k k2:List Item}{g:Mu}{c:Array Value}{d:List Deferred}{e:Option (Value×Bool)}{x:Ex}
 (h: ∀id,x=.exit id->exitTo id k=exitTo id k2) (j:x≠ .normal) (r:Reach P F f m k g w' c d e x):Reach P F f m k2 g w' c d e x:=by
 cases x with
 |normal=>grind|exit id=>obtain⟨i,a,b⟩:=r;exact⟨i,a.trans (h id rfl),b⟩
 |ret=>exact r|pan v=>exact r
def DrawOk(E:Env)(P:Program)(R:Rec):Prop:=
 ∀ f id a l h g i q j m,jT E (cu a.toList)=some (q,j)->bZ E R (cu a.toList) q (cu a.toList) 0 l h []=some (g,i,m)->cR m j=true-> ∀n w F c b d e k,SR P f l h n w F c b d e->
   Sim P f h n w F c b d e (.code (.region id a true)::k) k .normal g i
def xn(E:Env)(P:Program)(R:Rec):Prop:=
 ∀ f id (b:Array Oper) l h g i x,cutD E R f b.toList l h=some (x,g,i)-> ∀j w F c a d e k,SR P f l h j w F c a d e->
   Sim P f h j w F c a d e (.code (.region id b true)::k) k x g i
section
variable{E:Env}{P:Program}(ok:EOk E P){R:Rec}(hc:iM E P R.call)(hcode:jW P R.code)
theorem dead_at(e:bg mu h w)(a:dW mu b c)(f:h.get b=some .dfr): ∃top,mu b=.blk c 0 top/\w.heap[c]? =some (.deferred (some [])):=by
 unfold dW at a;cases d:mu b with
 |none=>grind|dead=>have:=e.dead _ d;rw [f]at this;cases this
 | blk l g top=>
   rw [d]at a;obtain⟨rfl,rfl⟩:=a;obtain⟨y,o,i,j,k⟩:=e.blk _ c 0 top d;rw [f]at i;cases i;obtain⟨_,rfl⟩:=k;exact⟨top,rfl,j⟩
theorem yv(w:World)(o:Obj):WNew w (oO w o) o:=⟨rfl,rfl,rfl,rfl⟩
theorem CH(b:bg mu h w){r:fS}{a:Loop}(c:oH mu r a):
 bg (upd mu h.n (.blk w.heap.size 0 0)) (h.new (.loop r)) (oO w (.loop a))/\Ext mu h w (upd mu h.n (.blk w.heap.size 0 0)) (h.new (.loop r)) (oO w (.loop a)):=
 pg b (yv w _) ⟨rfl,a,rfl,c⟩
theorem dfr_new(a:bg mu h w):
 bg (upd mu h.n (.blk w.heap.size 0 0)) (h.new .dfr) (oO w (.deferred (some [])))/\Ext mu h w (upd mu h.n (.blk w.heap.size 0 0)) (h.new .dfr) (oO w (.deferred (some []))):=
 pg a (yv w _) ⟨rfl,rfl⟩
theorem CO{params:Array Tmp}{assign body:Code}{n:Hp}{d:Nat}{e:List Deferred}
 (b:(match cx.round with
   |none=>some (h.new .dfr,h.n,({target:=.collected h.n,args:=#[]}:Deferred)::l.dfs)| some r=>match h.get r with
     |some (.loop x)=>some (h,x.defers,l.dfs)|_=>none)=some (n,d,e))
   {F:FC} {g:List Frame} {tmps:Array Value} {dfs:List Deferred} {i:Option (Value×Bool)} (s:SR P cx l h mu w F g tmps dfs i):
 ∃ f o c mark,(Instr.enterLoop F.fn tmps params assign body F.round).run P w=.ok (c,mark) o/\dW f n.n c/\
   SR P cx {l with dfs:=e} (n.new (.loop {fn:=cx.fn,regs:=l.regs,nr:=cx.nr,params,assign,body,st:=0,pending:=none,defers:=d})) f o F g tmps (mark++dfs) i/\
   Ext mu h w f (n.new (.loop {fn:=cx.fn,regs:=l.regs,nr:=cx.nr,params,assign,body,st:=0,pending:=none,defers:=d})) o:=by
 cases j:cx.round with
 | none=>
   rw [j]at b;cases b;have v:F.round=none:=by
    have:=s.rd;rw [j]at this;cases hf:F.round with
    |none=>rfl|some c=>rw [hf]at this;exact this.elim
   obtain⟨p,u⟩:=dfr_new s.hr;have k:=s.step p (u.le s.hr);have q:oH (upd mu h.n (.blk w.heap.size 0 0)) {fn:=cx.fn,regs:=l.regs,nr:=cx.nr,params,assign,body,st:=0,pending:=none,defers:=h.n}
    {state:=.ready,pending:=none,fn:=F.fn,tmps,params,assign,body,defers:=w.heap.size}:=⟨s.fn,k.regs,rfl,rfl,rfl,rfl,rfl⟩
   obtain⟨t,m⟩:=CH p q;have a:=k.step t (m.le p);refine⟨_,_,_,_,by rw [v];exact Bz,?_,?_,Ext.trans u m⟩
   . show dW (upd _ (h.n+1) _) (h.n+1) (w.heap.size+1);unfold dW;rw [upd_same];exact⟨by simp [oO],rfl⟩
   . refine⟨a.hr,a.glob,a.regs,LR.cons ⟨w.heap.size,rfl,?_⟩ a.dfs,a.rc,a.ko,a.fn,a.rd,a.rn,a.fs⟩;show dW (upd (upd mu h.n (.blk w.heap.size 0 0)) (h.n+1) _) h.n w.heap.size;unfold dW;rw [a9 _ _ (by omega),upd_same];omega
 | some r=>
   rw [j]at b;simp only []at b
   split at b
   next x y=>
    cases b;cases hf:F.round with
    |none=>have:=s.rd;rw [j,hf]at this;exact this.elim| some c=>
      have z:dW mu r c:=(by have:=s.rd;rw [j,hf]at this;exact this);obtain⟨A,B,D,C,G⟩:=sT s.hr z y;have q:oH mu {fn:=cx.fn,regs:=l.regs,nr:=cx.nr,params,assign,body,st:=0,pending:=none,defers:=x.defers}
       {state:=.ready,pending:=none,fn:=F.fn,tmps,params,assign,body,defers:=B.defers}:=⟨s.fn,s.regs,rfl,rfl,rfl,rfl,rfl⟩
      obtain⟨t,m⟩:=CH s.hr q;have a:=s.step t (m.le s.hr);refine⟨_,_,_,[],yd C,?_,a,m⟩;unfold dW;rw [upd_same];omega
   grind
include ok hc in
theorem AL  {f:Operand} {params:Array Tmp} {assign body:Code} {l':Loc}  {x:Ex} (m:js R cx (l.ev f) params assign body l h=some (x,l',h'))
   {F:FC} {j:List Frame} {tmps:Array Value} {dfs:List Deferred} {i:Option (Value×Bool)} {k:List Item} (s:SR P cx l h mu w F j tmps dfs i):
 Sim P cx h mu w F j tmps dfs i (.code (.rangeFunc f params assign body)::k) k x l' h':=by
 unfold js at m;have hf:=ev_rel s.regs f s.glob
 split at m
 next fv g a b S=>
  rw [S]at hf;cases C:dT tmps f<;>rw [C]at hf<;>cases hf;rename_i a' b' f1 f2 f3 f4
  split at m
  next=>cases m
  next M d ai D=>
   obtain⟨G,w2,c,mark,h0,hp,t,T⟩:=CO (params:=params) (assign:=assign) (body:=body) D s;cases n:R.call g (a.toList++[.func (.yield M.n) #[] #[]]++b.toList) none (M.new (.loop {fn:=cx.fn,regs:=l.regs,nr:=cx.nr,params,assign,body,st:=0,pending:=none,defers:=d}))with
   |none=>grind| some q=>
     obtain⟨U,ax,h2⟩:=q;rw [n]at m;obtain⟨⟨fn,V,y⟩,hs⟩:=hc _ _ _ _ _ _ _ n;have H:=st_range (P:=P) (F:=F) (dfs:=dfs) (k:=k) (cs:=aX i j) C (fun I w=>ok.call g fn I w V y) h0;have z:VL G (a.toList++[.func (.yield M.n) #[] #[]]++b.toList) (a'++#[Value.func (.yield c) #[] #[]]++b').toList:=(by simp only [Xo];have le:=T.le s.hr;exact LR.append (LR.append (VL.mono le ⟨f1,f2⟩) (LR.cons (.yield hp) LR.nil)) (VL.mono le ⟨f3,f4⟩));obtain⟨J,N,ak,fr,O,W,k3,k4,k5,k6,_⟩:=hs G w2 (a'++#[.func (.yield c) #[] #[]]++b') none (F.mk' tmps (mark++dfs) (.inRangeFunc c::k)::aX i j) .normal t.hr t.glob z trivial (.inl rfl);have:=k4.normal;subst this;have K:=W.le t.hr;have L:=t.step O K;cases U with
     | pan v=>
       cases m;obtain⟨v',X,l2⟩:=k6;exact⟨J,N,tmps,mark++dfs,i,L,Ext.trans T W,v',.inRangeFunc c::k,l2,Steps.trans (.one H) (Steps.trans k5 (.one (oQ X (c:=F.mk' tmps (mark++dfs) (.inRangeFunc c::k)) (cs:=aX i j))))⟩
     | ret v=>
       obtain⟨v',X,l2⟩:=k6;simp only []at m
       split at m
       next x1 Y=>
        have Z:dW J M.n c:=hp.mono K;obtain⟨al,u,g1,g2,Q⟩:=sT O Z Y;have p:Steps P (lone (F.mk' tmps dfs (.code (.rangeFunc f params assign body)::k)) (aX i j) w) (lone (F.mk' tmps (mark++dfs) (.endRangeFunc c::k)) (aX i j) N):=
         Steps.trans (.one H) (Steps.trans k5 (.one (Bd X (c:=F.mk' tmps (mark++dfs) (.inRangeFunc c::k)) (cs:=aX i j))))
        split at m
        next=>cases m
        next ad=>
         have af:u.state≠ .busy:=(by intro e;have:=Q.st;rw [e]at this;exact ad this.symm);have ay:=CR (P:=P) (F:=F) (tmps:=tmps) (dfs:=mark++dfs) (k:=k) (cs:=aX i j) g2 af;obtain⟨a1,a2⟩:=qi O g1 (by grind) (uS (o:=.loop {u with state:=.exhausted}) g2);have A:=L.step a1 (a2.le O);have e4:=Ext.trans T (Ext.trans W a2);have B: ∀td,(u.pending.map Item.code).toList++k=td->step P (lone (F.mk' tmps (mark++dfs) (.endRangeFunc c::k)) (aX i j) N)=
          .next (lone (F.mk' tmps (mark++dfs) td) (aX i j) (setW N c (.loop {u with state:=.exhausted}))):=by
          grind
         split at m
         next r=>
          cases m;exact⟨_,_,tmps,mark++dfs,i,A,e4,Steps.trans p (.one (B _ (by rw [Q.pending,r];rfl)))⟩
         next id r=>
          cases m;exact⟨_,_,tmps,mark++dfs,i,A,e4,k,rfl,Steps.trans p (.one (B _ (by rw [Q.pending,r];rfl)))⟩
         next r=>
          cases m;exact⟨_,_,tmps,mark++dfs,i,A,e4,k,Steps.trans p (.one (B _ (by rw [Q.pending,r];rfl)))⟩
         next=>cases m
       next=>cases m
 next=>cases m
include ok hc hcode in
theorem Cg (T:DrawOk E P R) (L:xn E P R):jW P (aP E R):=by
 intro V c
 induction c with
 | skip=>
   intro l h x J K j B w F p e dfs o k A s C;rcases C with rfl|⟨b,D,_⟩
   . cases j;exact⟨B,w,e,dfs,o,s,Ext.refl B _ w s.hr,.one st_skip⟩
   . cases D
 | label n=>
   intro l h x J K j B w F p e dfs o k A s C;rcases C with rfl|⟨b,D,_⟩
   . cases j;exact⟨B,w,e,dfs,o,s,Ext.refl B _ w s.hr,.one st_label⟩
   . cases D
 | region id ops W=>
   intro l h x J K j B w F p e dfs o k A s C;rcases C with rfl|⟨b,D,_⟩
   . simp only [aP]at j;cases W with
     | false=>simp only [cond_false]at j;have r:=Av ok hc hcode (ops:=ops) (k:=k) ops.toList 0 _ _ _ _ _ _ _ _ _ _ rfl s j;rw [Array.length_toList,<-List.range_eq_range']at r;exact r.pre (.one st_region) (Ext.refl B h w s.hr)| true=>
       simp only [cond_true]at j;cases Q:E.cut V.fn with
       | true=>rw [Q]at j;exact L V id ops l h _ _ _ j B w F p e dfs o k s| false =>
         rw [Q]at j;simp only [cond_false]at j;cases hp:jT E (cu ops.toList)with
         |none=>grind| some q=>
           obtain⟨q,ps⟩:=q;rw [hp]at j;simp only []at j;cases he:bZ E R (cu ops.toList) q (cu ops.toList) 0 l h []with
           |none=>grind| some q3=>
             obtain⟨l1,h1,tr⟩:=q3;rw [he]at j;simp only []at j;cases X:cR tr ps with
             |false=>grind| true=>
               rw [X]at j;cases j;exact T V id ops l h _ _ q ps tr hp he X B w F p e dfs o k s
   . cases D
 | seq a b M N=>
   intro l h x J K j B w F p e dfs o k A s C;rcases C with rfl|⟨b,D,_⟩
   . simp only [aP]at j;cases S:aP E R V a l h with
     |none=>grind| some q=>
       obtain⟨Y,l1,h1⟩:=q;rw [S]at j;obtain⟨u,G,d,g,y,H,I,U⟩:=M _ _ _ _ _ S B w F p e dfs o (.code b::k) _ s (.inl rfl);have z:=Reach.pre (.one st_seq) U;cases Y with
       | normal=>exact Sim.pre z I (N _ _ _ _ _ j u G F p d g y k _ H (.inl rfl))|exit id=>cases j;exact⟨u,G,d,g,y,H,I,z.out (fun id _=>rfl) (by simp)⟩
       |ret=>cases j;exact⟨u,G,d,g,y,H,I,z.out (fun id _=>rfl) (by simp)⟩
       |pan v=>cases j;exact⟨u,G,d,g,y,H,I,z.out (fun id _=>rfl) (by simp)⟩
   . cases D
 | cond c a b M N=>
   intro l h x J K j B w F p e dfs o k A s C;rcases C with rfl|⟨b,D,_⟩
   . simp only [aP]at j;have hv:=ev_rel s.regs c s.glob
     split at j
     next t ak=>
      rw [ak]at hv;cases Z:dT e c<;>rw [Z]at hv<;>cases hv;have O:=st_cond (P:=P) (F:=F) (dfs:=dfs) (k:=k) (cs:=aX o p) (w:=w) (a:=a) (b:=b) Z;cases t with
      |true=>exact Sim.pre (.one O) (Ext.refl B h w s.hr) (M _ _ _ _ _ j B w F p e dfs o k _ s (.inl rfl))|false=>exact Sim.pre (.one O) (Ext.refl B h w s.hr) (N _ _ _ _ _ j B w F p e dfs o k _ s (.inl rfl))
     next=>cases j
   . cases D
 | block id b ih=>
   intro l h x J K j B w F p e dfs o k A s C;rcases C with rfl|⟨b,D,_⟩
   . simp only [aP]at j;cases S:aP E R V b l h with
     |none=>grind| some q=>
       obtain⟨Y,l1,h1⟩:=q;rw [S]at j;obtain⟨u,G,d,g,y,H,I,U⟩:=ih _ _ _ _ _ S B w F p e dfs o (.inBlock id::k) _ s (.inl rfl);have z:=Reach.pre (.one st_block) U;cases Y with
       |normal=>cases j;exact⟨u,G,d,g,y,H,I,Steps.trans z (.one Er)⟩
       | exit i=>
         simp only []at j;obtain⟨k0,ad,r2⟩:=z;cases hi:Xe i id with
         | true=>
           have:i=id:=zM hi;subst this;rw [hi]at j;cases j;exact⟨u,G,d,g,y,H,I,Steps.trans r2 (.one (st_exit (k':=k) (by rw [ad];simp [exitTo])))⟩
         | false=>
           have al:id≠i:=(by grind[Nat.beq_refl]);rw [hi]at j;cases j;exact⟨u,G,d,g,y,H,I,k0,by rw [ad];simp [exitTo,al],r2⟩
       |ret=>cases j;exact⟨u,G,d,g,y,H,I,z⟩
       |pan v=>cases j;exact⟨u,G,d,g,y,H,I,z⟩
   . cases D
 | loop b ih=>
   intro l h x J K j B w F p e dfs o k A s C;have O:step P (lone (F.mk' e dfs A) (aX o p) w)=.next (lone (F.mk' e dfs (.code b:: .inLoop b::k)) (aX o p) w):=by
    rcases C with rfl|⟨b2,D,rfl⟩
    . exact st_loop
    . cases D;exact st_inLoop
   simp only [aP]at j;cases S:aP E R V b l h with
   |none=>grind| some q=>
     obtain⟨Y,l1,h1⟩:=q;rw [S]at j;obtain⟨u,G,d,g,y,H,I,U⟩:=ih _ _ _ _ _ S B w F p e dfs o (.inLoop b::k) _ s (.inl rfl);have z:=Reach.pre (.one O) U;cases Y with
     |normal=>exact Sim.pre z I (hcode _ _ _ _ _ _ _ j u G F p d g y k _ H (.inr ⟨b,rfl,rfl⟩))|exit id=>cases j;exact⟨u,G,d,g,y,H,I,z.out (fun id _=>rfl) (by simp)⟩
     |ret=>cases j;exact⟨u,G,d,g,y,H,I,z.out (fun id _=>rfl) (by simp)⟩
     |pan v=>cases j;exact⟨u,G,d,g,y,H,I,z.out (fun id _=>rfl) (by simp)⟩
 | rangeFunc f af ai ax M N=>
   intro l h x J K j B w F p e dfs o k A s C;rcases C with rfl|⟨b,D,_⟩
   . exact AL ok hc j s
   . cases D
 | exit id=>
   intro l h x J K j B w F p e dfs o k A s C;rcases C with rfl|⟨b,D,_⟩
   . cases j;exact⟨B,w,e,dfs,o,s,Ext.refl B _ w s.hr,k,rfl,Steps.refl _ _⟩
   . cases D
 | scope b ih=>
   intro l h x J K j B w F p e dfs o k A s C;rcases C with rfl|⟨b,D,_⟩
   . obtain⟨u,G,d,g,y,H,I,U⟩:=ih _ _ _ _ _ j B w F p e dfs o (.inScope b::k) _ s (.inl rfl);have z:=Reach.pre (.one st_scope) U;cases x with
     |normal=>exact⟨u,G,d,g,y,H,I,Steps.trans z (.one Ds)⟩|exit id=>exact⟨u,G,d,g,y,H,I,z.out (fun id _=>rfl) (by simp)⟩
     |ret=>exact⟨u,G,d,g,y,H,I,z.out (fun id _=>rfl) (by simp)⟩
     |pan v=>exact⟨u,G,d,g,y,H,I,z.out (fun id _=>rfl) (by simp)⟩
   . cases D
 |goto n=>intro l h x J K j;cases j
 | ret=>
   intro l h x J K j B w F p e dfs o k A s C;rcases C with rfl|⟨b,D,_⟩
   . cases j;exact⟨B,w,e,dfs,o,s,Ext.refl B _ w s.hr,k,Steps.refl _ _⟩
   . cases D
 |refuse m=>intro l h x J K j;cases j
end
theorem uQ.hrel(k:uQ w w')(a:bg mu h w):bg mu h w':=
 ⟨a.sized,fun b c d e f=>by
  obtain⟨x,o,g,i,j⟩:=a.blk b c d e f;refine⟨x,o,g,?_,j⟩;rw [k.heap c (by
   grind)]
  exact i,a.dead,a.inj,a.lt⟩
theorem uQ.ext(k:uQ w w')(hh:bg mu h w):Ext mu h w mu h w' where
 n:=Xb _
 old:=fun _ _=>.inl rfl
 fresh:=fun b c base top hb hm=>absurd (hh.lt b (by rw [hm];simp)) (by omega)
 lo:=Xb _
 same:=fun _ _ _=>rfl
 frame:=fun c hc _=>k.heap c hc
 ro:=fun b c base top t sz el hm hg=>by obtain⟨x,o,h1,h2,h3⟩:=hh.blk b c base top hm;refine⟨k.heap c ?_,rfl,rfl⟩;grind
 wsize:=k.size
 os:=k.os
 tape:=k.tape
 output:=k.output
 cover:=fun _ h1 h2=>absurd h2 (by omega)
def sI(mu:Mu):Option Value->FrameMode->Prop
 |none,M=>M=.returning|some v,M=> ∃a,M=.panicking [{v:=a,recovered:=false}]/\aw mu v a
theorem sI.mono{mu c:Mu}(h:Le mu c){m:Option Value}{M:FrameMode}(k:sI mu m M):sI c m M:=by
 cases m with
 |none=>exact k|some v=>obtain⟨d,a,b⟩:=k;exact⟨d,a,b.mono h⟩
def FC.un(F:FC)(tmps:Array Value)(dfs:List Deferred)(todo:List Item)(M:FrameMode):Frame:={F.mk' tmps dfs todo with mode:=M}
section
variable{P:Program}{F:FC}{tmps:Array Value}{dfs:List Deferred}{todo:List Item}{cs:List Frame}{w:World}
theorem CE{M:FrameMode}(e:M≠ .run){args:Array Value}{a:List Deferred}(d:w.heap[c]? =some (.deferred (some a))):
 step P (lone (F.un tmps ({target:=.collected c,args}::dfs) todo M) cs w)=.next (lone (F.un tmps (a++dfs) todo M) cs (setW w c (.deferred none))):=by
 refine step_lone_go ?_;have b:=xJ (P:=P) d;cases M with
 |run=>grind|returning=>simp [stepG,unwind,FC.un,FC.mk',b]|panicking f=>simp [stepG,unwind,FC.un,FC.mk',b]
theorem rD{M:FrameMode}(b:M≠ .run){f:FuncId}{cap args:Array Value}(hf: ∀a w,(callFunc f a).run P w=.ok (.enter f a) w):
 step P (lone (F.un tmps ({target:=.fn (.func f) cap,args}::dfs) todo M) cs w)=.next (lone (Frame.enter P f (args++cap) .deferred) (F.un tmps dfs todo M::cs) w):=by
 refine step_lone_go ?_;cases M with
 |run=>grind|returning=>simp [stepG,unwind,callDeferred,FC.un,FC.mk',invoke,hf]|panicking c=>simp [stepG,unwind,callDeferred,FC.un,FC.mk',invoke,hf]
theorem qq{b c:Frame}(h:ss P b w .deferred v)(a:c.mode=.returning\/ ∃v',c.mode=.panicking [{v:=v',recovered:=false}]):
 step P (lone b (c::cs) w)=.next (lone c cs w):=by
 obtain⟨e,hf,d⟩:=h.res;refine step_lone_go ?_;rcases a with a|⟨v',a⟩<;>simp [stepG,unwind,doReturn,h.mode,h.defers,h.kind,hf,d,a]
theorem uM{a c:Frame}{v':Value}(h:ss P a w .deferred v)(b:c.mode=.panicking [{v:=v',recovered:=true}]):
 step P (lone a (c::cs) w)=.next (lone {c with mode:=.returning} cs w):=by
 obtain⟨e,hf,d⟩:=h.res;exact step_lone_go (by simp [stepG,unwind,doReturn,h.mode,h.defers,h.kind,hf,d,b])
end
section
variable{E:Env}{P:Program}(ok:EOk E P){R:Rec}(hc:iM E P R.call)(hcode:jW P R.code)
include ok hc in
theorem mG {F : FC} {tmps:Array Value} {todo:List Item} {cs:List Frame}: ∀(H:List Deferred) (m C:Option Value) (h h':Hp),cI R H m h=some (C,h')->
 ∀ (mu:Mu) (w:World) (dfs:List Deferred) (M:FrameMode),bg mu h w->ni mu->DL mu H dfs->sI mu m M->
   ∃j w' M',bg j h' w'/\Ext mu h w j h' w'/\sI j C M'/\Steps P (lone (F.un tmps dfs todo M) cs w) (lone (F.un tmps [] todo M') cs w')
 | [],m,C,h,h',i,mu,w,dfs,M,x,I,hd,J=>by
   cases i;rw [hd.nil_left];exact⟨mu,w,M,x,Ext.refl mu h w x,J,Steps.refl _ _⟩
 | d :: H, m,C,h,h',i,mu,w,dfs,M,x,I,hd,J=>by
   obtain⟨d',g,rfl,Q,Z⟩:=hd.cons_left;have hM:M≠ .run:=by
    intro e;subst e;cases m with
    |none=>cases J
    |some v=>obtain⟨_,a,_⟩:=J;cases a
   obtain⟨al,k⟩:=d';unfold cI at i
   split at i
   next b hb=>
    split at i
    next U=>
     unfold oP at Q;rw [hb]at Q;obtain⟨c,r,hp⟩:=Q;simp only []at r;subst r;obtain⟨ax,K,D⟩:=dead_at x hp U;obtain⟨a1,a2⟩:=qi x K (by grind) (uS (o:=.deferred none) D);have s:=a2.le x;obtain⟨j,w',M',S,G,T,k4⟩:=mG H m C _ h' i _ _ g M a1 (I.mono s) (LR.mono Z fun _ _=>oP.mono s) (J.mono s);exact⟨j,w',M',S,Ext.trans a2 G,T,.head (CE hM D) k4⟩
    next=>cases i
   next f cap hb=>
    unfold oP at Q;rw [hb]at Q;obtain⟨n,r,V,t⟩:=Q;simp only []at r t;subst r;have va:VL mu (d.args.toList++cap.toList) (k++n).toList:=(by rw [Xo];exact LR.append t V);cases m with
    | none=>
      have ad:M=.returning:=J;subst ad;simp only []at i;cases l:R.call f (d.args.toList++cap.toList) none h with
      |none=>grind| some q=>
        obtain⟨L,rc,af⟩:=q;rw [l]at i;obtain⟨⟨fn,N,p⟩,hs⟩:=hc _ _ _ _ _ _ _ l;have A:=rD (P:=P) (F:=F) (tmps:=tmps) (dfs:=g) (todo:=todo) (cs:=cs) (w:=w) hM (cap:=n) (args:=k) (fun a w=>ok.call f fn a w N p);obtain⟨B,w1,u,fr,S,G,T,k4,k5,k6,_⟩:=hs mu w (k++n) none (F.un tmps g todo .returning::cs) .deferred x I va trivial (.inr ⟨rfl,_,_,rfl,rfl⟩);cases L with
        |pan v=>cases i
        | ret v=>
          obtain⟨v',l1,l2⟩:=k6;simp only []at i;cases rc with
          |some y=>cases i
          | none=>
            cases u with
            |some y=>exact T.elim| none=>
              simp only []at i;have s:=G.le x;obtain⟨j,w',M',K,D,W,X⟩:=mG H none C _ h' i B w1 g .returning S (I.mono s) (LR.mono Z fun _ _=>oP.mono s) rfl;exact⟨j,w',M',K,Ext.trans G D,W,Steps.trans (.one A) (Steps.trans k5 (.head (qq l1 (.inl rfl)) X))⟩
    | some pv =>
      obtain⟨Y,rfl,ai⟩:=J;simp only []at i;cases l:R.call f (d.args.toList++cap.toList) (some (pv,false)) h with
      |none=>grind| some q=>
        obtain⟨L,rc,af⟩:=q;rw [l]at i;obtain⟨⟨fn,N,p⟩,hs⟩:=hc _ _ _ _ _ _ _ l;have A:=rD (P:=P) (F:=F) (tmps:=tmps) (dfs:=g) (todo:=todo) (cs:=cs) (w:=w) hM (cap:=n) (args:=k) (fun a w=>ok.call f fn a w N p);obtain⟨B,w1,u,fr,S,G,T,k4,k5,k6,_⟩:=hs mu w (k++n) (some (Y,false)) (F.un tmps g todo (.panicking [{v:=Y,recovered:=false}])::cs) .deferred x I va ⟨rfl,ai⟩ ⟨rfl,by simp⟩;cases L with
        |pan v=>cases i
        | ret v =>
          obtain⟨v',l1,l2⟩:=k6;simp only []at i;have s:=G.le x;cases rc with
          |none=>cases i
          | some y=>
            obtain⟨v0,b⟩:=y;cases u with
            |none=>exact T.elim| some z=>
              obtain⟨O,b'⟩:=z;obtain⟨rfl,ak⟩:=T;cases b with
              | true=>
                simp only []at i;obtain⟨j,w',M',K,D,W,X⟩:=mG H none C _ h' i B w1 g .returning S (I.mono s) (LR.mono Z fun _ _=>oP.mono s) rfl;refine⟨j,w',M',K,Ext.trans G D,W,Steps.trans (.one A) (Steps.trans k5 (.head (uM l1 rfl) X))⟩
              | false=>
                simp only []at i;obtain⟨j,w',M',K,D,W,X⟩:=mG H (some v0) C _ h' i B w1 g (.panicking [{v:=O,recovered:=false}]) S (I.mono s) (LR.mono Z fun _ _=>oP.mono s) ⟨O,rfl,ak⟩;refine⟨j,w',M',K,Ext.trans G D,W,Steps.trans (.one A) (Steps.trans k5 (.head (qq l1 (.inr ⟨O,rfl⟩)) X))⟩
   next=>cases i
include ok in
theorem Da    (p:bg mu h w)   {tmps:Array Value} (i:jZ mu t n tmps): ∀(rs:List ResultVar) (vs:List Value),bR E t h rs=some vs->
 ∃ b,(rs.mapM (fun
   | .tmp t=>pure (tmps.getD t undef)| .cell a t=>do loadVar t (<-asAddr (tmps.getD a undef)):ResultVar->Sem Value)).run P w=.ok b w/\VL mu vs b:=by
 have e: ∀a,aw mu (match t.get a with|some v=>v|none=>.tuple #[]) (tmps.getD a undef):=by
  intro a;cases d:t.get a with
  | none=>
    have:n<=a:=by
     rcases Xj a n with g|g
     . obtain⟨v,q⟩:=Tr.get_some i.sized g;grind
     . exact g
    rw [Xd,Xh (by rw [i.size];exact this)];exact .tuple rfl (by grind)
  | some v=>
    obtain⟨k,g,q⟩:=i.get a v d;simp_all
 intro rs
 induction rs with
 |nil=>intro vs c;cases c;exact⟨[],by simp,LR.nil⟩
 | cons r rs m=>
   intro vs c;cases r with
   | tmp a=>
     simp only [bR]at c;cases f:bR E t h rs with
     |none=>grind| some l=>
       rw [f]at c;cases c;obtain⟨b,s,o⟩:=m l f;grind[undef,LR.cons,Sem.run_bind,Sem.run_pure,Result.andThen_ok]
   | cell a u=>
     simp only [bR]at c
     split at c
     next=>cases c
     next v d=>
      cases f:bR E t h rs with
      |none=>grind| some l=>
        rw [f]at c;cases c;obtain⟨b,s,o⟩:=m l f;obtain⟨k,C,z⟩:=Am (P:=P) ok p d (e a);refine⟨k::b,?_,LR.cons z o⟩;have D: ∃j,tmps.getD a undef=.pointer (some j):=(by have A: ∀x y,fV E h u x=some v->aw mu x y-> ∃j,y=.pointer (some j):=(by intro x y d B;unfold fV at d;cases B<;>(try simp only []at d)<;>first|(cases d;done)|grind);grind);grind[asAddr,undef,run,Instr.loadAt,Instr.sureAddr,Sem.run_bind,Sem.run_pure,Result.andThen_ok]
include ok in
theorem Dg(j:bg mu h w){tmps:Array Value}(k:jZ mu t n tmps){c:Func}{vs:List Value}(l:bR E t h c.results.toList=some vs):
 ∃v',(results c tmps).run P w=.ok v' w/\aw mu (ab vs) v':=by
 obtain⟨b,m,d⟩:=Da (P:=P) ok j k _ _ l;have o:(results c tmps).run P w=.ok (if h:b.toArray.size=1 then b.toArray[0]else .tuple b.toArray) w:=by
  unfold results;rw [Array.mapM_eq_mapM_toList];simp only [map_eq_pure_bind,Sem.run_bind];refine(congrArg (fun q:Result (List Value)=>(q.andThen fun a e=>(pure a.toArray:Sem (Array Value)).run P e).andThen
   fun a e=>(pure (if h:a.size=1 then a[0]else .tuple a):Sem Value).run P e) m).trans ?_
  simp
 refine⟨_,o,?_⟩;cases vs with
 | nil=>rw [d.nil_left];exact .tuple rfl (by grind)| cons v r=>
   obtain⟨v',B,rfl,p,g⟩:=d.cons_left;cases r with
   | nil=>rw [g.nil_left];simpa [ab]using p| cons C D=>
     obtain⟨s,x,rfl,F,y⟩:=g.cons_left;simp only [ab,List.size_toArray,List.length_cons];rw [dif_neg (by omega)];exact .tuple (by simpa using y.1) (fun i u z A f=>d.2 i u z (by simpa using A) (by simpa using f))
include ok hc hcode in
theorem CJ : iM E P (mE E R):=by
 intro g c rc h o U h' f;unfold mE at f;cases V:E.fn g with
 |none=>grind| some d =>
   rw [V]at f;simp only []at f;cases hb:d.body with
   |none=>grind| some n =>
     rw [hb]at f;simp only []at f;refine⟨⟨d,rfl,by rw [hb];rfl⟩,?_⟩;intro mu w b u l j hh hg ha af K;have hP:=ok.fn g d V;cases hle:Xm c.length d.ntmps with
     |false=>grind| true =>
       rw [hle]at f;simp only [cond_true]at f;have ay:c.length<=d.ntmps:=Xi hle;have ai:j=.normal\/j=.deferred:=by
        cases u with
        |none=>rcases K with a|a;exact .inl a;exact .inr a.1
        |some y=>exact .inr K.1
       let F:FC:=⟨g,j,none⟩
       have W:Frame.enter P g b j=F.mk' (b++Xf (d.ntmps-b.size) undef) [] [.code n]:=(by simp [Frame.enter,hP,hb,FC.mk',F]);have aL:c.length=b.size:=(by rw [ha.1];simp);have L:jZ mu ((Tr.blank (.tuple #[]) d.ntmps d.ntmps).setAll 0 c) d.ntmps (b++Xf (d.ntmps-b.size) undef):=by
        refine⟨by grind,Tr.sized_setAll 0 c (Tr.sized_blank _ _ _ (Xb _)),fun i v D=>?_⟩;rw [Tr.get_setAll _ 0 c d.ntmps (Tr.sized_blank _ _ _ (Xb _)) (by omega)]at D;by_cases hi:i<c.length
        . rw [if_pos ⟨Nat.zero_le _,by omega⟩]at D;obtain⟨C,g1,g2⟩:=ha.get (i:=i) (by simpa using D);grind
        . rw [if_neg (by omega),Tr.get_blank _ _ _ (Xb _)]at D
          split at D
          . cases D;refine⟨undef,?_,.tuple rfl (by grind)⟩;grind
          . cases D
       have sr:SR P ⟨g,d.ntmps,none⟩ ⟨(Tr.blank (.tuple #[]) d.ntmps d.ntmps).setAll 0 c,[],rc⟩ h mu w F l (b++Xf (d.ntmps-b.size) undef) [] u:=
        ⟨hh,hg,L,LR.nil,af,K,rfl,trivial,fun e=>absurd rfl e,by grind⟩
       rw [W];cases X:R.code ⟨g,d.ntmps,none⟩ n ⟨(Tr.blank (.tuple #[]) d.ntmps d.ntmps).setAll 0 c,[],rc⟩ h with
       |none=>grind| some q =>
         obtain⟨x,G,h1⟩:=q;rw [X]at f;obtain⟨Y,w1,p,z,k,t,e1,r1⟩:=hcode _ _ _ _ _ _ _ X mu w F l _ [] u [] [.code n] sr (.inl rfl);have Z: ∀{r:Array Value} {todo:List Item} {m:Mu} {M:Hp} {I:World} {N:List Value},bg m M I->jZ m G.regs d.ntmps r->bR E G.regs M d.results.toList=some N->
          ∃C,ss P (F.un r [] todo .returning) I j C/\aw m (ab N) C:=by
          intro r todo m M I N ak al s;obtain⟨C,g1,g2⟩:=Dg (P:=P) ok ak al s;exact⟨C,⟨rfl,rfl,rfl,d,hP,g1⟩,g2⟩
         have A: ∀{todo:List Item},Steps P (lone (F.mk' (b++Xf (d.ntmps-b.size) undef) [] [.code n]) (aX u l) w) (lone (F.mk' p z todo) (aX k l) w1)->(todo=[]\/ ∃k0,todo=.code .ret::k0)->
          (match cI R G.dfs none h1 with
            | some (none,ad)=>match bR E G.regs ad d.results.toList with
              |none=>none|some N=>some (Out.ret (ab N),G.rc,ad)
            |_=>none)=some (o,U,h')->
          ∃ H w' B fr,bg H h' w'/\Ext mu h w H h' w'/\rG H U B/\KOk j l B/\
            Steps P (lone (F.mk' (b++Xf (d.ntmps-b.size) undef) [] [.code n]) (aX u l) w) (lone fr (aX B l) w')/\
            CallEnd P fr w' j H o/\fr.fn=g:=by
          intro todo st ht f;cases hu:cI R G.dfs none h1 with
          |none=>grind| some q2=>
            obtain⟨m2,M⟩:=q2;rw [hu]at f;cases m2 with
            |some v=>cases f
            | none=>
              simp only []at f;obtain⟨m,I,M2,J,S,k3,k4⟩:=mG ok hc (F:=F) (tmps:=p) (todo:=todo) (cs:=aX k l) _ _ _ _ _ hu Y w1 z .returning t.hr t.glob t.dfs rfl;have O:M2=.returning:=k3;subst O;have le:=S.le t.hr;cases s:bR E G.regs M d.results.toList with
              |none=>grind| some N=>
                rw [s]at f;cases f;have T:=t.step J le;obtain⟨C,f1,f2⟩:=Z (todo:=todo) J T.regs s;exact⟨m,I,k,_,J,Ext.trans e1 S,T.rc,t.ko,Steps.trans st (.head (Es rfl ht) k4),⟨C,f1,f2⟩,rfl⟩
         cases x with
         |exit id=>cases f
         |normal=>exact A r1 (.inl rfl) f|ret=>obtain⟨k0,r2⟩:=r1;exact A r2 (.inr ⟨k0,rfl⟩) f
         | pan v =>
           obtain⟨C,todo,D,r2⟩:=r1;simp only []at f;cases hu:cI R G.dfs (some v) h1 with
           |none=>grind| some q2=>
             obtain⟨m2,M⟩:=q2;rw [hu]at f;obtain⟨m,I,M2,J,S,k3,k4⟩:=mG ok hc (F:=F) (tmps:=p) (todo:=todo) (cs:=aX k l) _ _ _ _ _ hu Y w1 z (.panicking [{v:=C,recovered:=false}]) t.hr t.glob t.dfs ⟨C,rfl,D⟩;have le:=S.le t.hr;have T:=t.step J le;cases m2 with
             | some v2=>
               cases f;obtain⟨Q,rfl,ax⟩:=k3;exact⟨m,I,k,_,J,Ext.trans e1 S,T.rc,t.ko,Steps.trans r2 k4,⟨Q,⟨rfl,rfl,rfl,d,hP⟩,ax⟩,rfl⟩
             | none=>
               have O:M2=.returning:=k3;subst O;simp only []at f;cases s:bR E G.regs M d.results.toList with
               |none=>grind| some N=>
                 rw [s]at f;cases f;obtain⟨Q,f1,f2⟩:=Z (todo:=todo) J T.regs s;exact⟨m,I,k,_,J,Ext.trans e1 S,T.rc,t.ko,Steps.trans r2 k4,⟨Q,f1,f2⟩,rfl⟩
include ok hc hcode in
theorem A9:iM E P (jB E R):=by
 intro g a r h o j A d;unfold jB at d;cases k:E.orc g a with
 |none=>rw [k]at d;exact CJ ok hc hcode g a r h o j A d| some v=>
   rw [k]at d;cases r with
   |some x=>cases d
   | none=>
     cases d;obtain⟨l,J,B,C⟩:=ok.orc g a v k;refine⟨l,?_⟩;intro s w b m n e t K p q f;cases m with
     |some x=>exact q.elim| none=>
       have c:b=⟨a⟩:=(by apply Array.ext';refine List.ext_getElem? fun i=>?_;obtain⟨u,y⟩:=p;grind[Xj,List.getElem?_eq_getElem,du,List.all_eq_true,List.getElem_mem,aw.const_eq,List.getElem?_eq_none]);subst c;obtain⟨D,F,z,G,H,I⟩:=C w n e f;exact⟨s,D,none,F,z.hrel t,z.ext t,trivial,f,G,⟨v,H,aw.const s B⟩,I⟩
end
theorem run_ok{E:Env}{P:Program}(d:EOk E P)(e: ∀R,iM E P R.call->jW P R.code->DrawOk E P R/\xn E P R): ∀n,iM E P (run E n).call/\jW P (run E n).code
 | 0=>by
   constructor
   . intro g args rc h o i h' f;cases f
   . intro cx c l h x l' h' f;cases f
 | n+1=>by obtain⟨a,b⟩:=run_ok d e n;exact⟨A9 d a b,Cg d a b (e _ a b).1 (e _ a b).2⟩
noncomputable def hp0:Hp:={n:=16,t:=Tr.ofList (Xn 16 .dead),lo:=16}
def mu0:Mu:=fun b=>if b<16 then .dead else .none
theorem hrel0(w:World):bg mu0 hp0 w:=by
 refine⟨?_,?_,?_,?_,?_⟩
 . have:=Tr.sized_ofList (Xn 16 Blk.dead);rwa [List.length_replicate]at this
 . intro b c a d h;unfold mu0 at h;split at h<;>cases h
 . intro b h;unfold mu0 at h
   split at h
   next e=>show(Tr.ofList (Xn 16 Blk.dead)).get b=_;rw [Tr.get_ofList,List.getElem?_replicate,if_pos e]
   next=>cases h
 . intro b i c a d f g h;unfold mu0 at h;split at h<;>cases h
 . intro b h;unfold mu0 at h
   split at h
   next e=>exact e
   next=>exact absurd rfl h
theorem glob0:ni mu0:=by intro g a;unfold fK mu0;simp [a]
theorem Ag{a:Hp}{o:Nat}(e:a.get b=h.get b):h.load b o n=a.load b o n:=by unfold Hp.load;rw [e]
theorem wY    (z:cls E op=0\/cls E op=1):
 ∃f:Hp->Option Value,(∀h,aop E ρ h op=cV h (f h))/\(cls E op=0-> ∀h i,f h=f i)/\(∀h i,(∀b,touch ρ op=some b->i.get b=h.get b)->f h=f i):=by
 have w:(∀h,aop E ρ h op=cV h (pop E ρ op))-> ∃f:Hp->Option Value,(∀h,aop E ρ h op=cV h (f h))/\(cls E op=0-> ∀h i,f h=f i)/\(∀h i,(∀b,touch ρ op=some b->i.get b=h.get b)->f h=f i):=
  fun h=>⟨fun _=>pop E ρ op,h,fun _ _ _=>rfl,fun _ _ _=>rfl⟩
 cases op
 case load t a=>
  refine⟨fun h=>fV E h t (ρ a),fun _=>rfl,fun u=>by simp [cls]at u,fun h i q=>?_⟩;show fV E h t (ρ a)=fV E i t (ρ a);unfold fV;unfold touch at q;simp only []at q
  split at q
  next x G=>
   rw [G];simp only [];have e: ∀o n,h.load x.block o n=i.load x.block o n:=fun o n=>Ag (q _ rfl);simp only [e]
  grind
 case lookup t m k b=>
  refine⟨fun h=>dw E h t (ρ m) (ρ k) b,fun _=>rfl,fun u=>by simp [cls]at u,fun h i q=>?_⟩;show dw E h t (ρ m) (ρ k) b=dw E i t (ρ m) (ρ k) b;unfold touch at q;unfold dw;grind
 case convert j g x=>
  have B:cls E (.convert j g x)=0-> ∀p,cP E j g=some p->p.1=0:=by grind[cls,cP]
  have A:cls E (.convert j g x)=1-> ∀p,cP E j g=some p->p.1=0\/p.1=1:=by intro u p H;unfold cls at u;unfold cP at H;grind
  refine⟨fun h=>match cP E j g with
   |some (0,_)=>ju E g (ρ x)|some (1,_)=>strOf h (ρ x)|_=>none,fun h=>?_,fun u h i=>?_,fun h i q=>?_⟩
  . show dD (jz E h j g (ρ x))=cV h _;unfold jz;cases C:cP E j g with
    |none=>rfl| some p=>
      obtain⟨n,e⟩:=p;have D:n=0\/n=1:=(by grind);rcases D with rfl|rfl
      . simp only [];cases ju E g (ρ x)<;>rfl
      . simp only [];cases strOf h (ρ x)<;>rfl
  . grind
  . cases C:cP E j g with
    |none=>simp only [C]| some p=>
      obtain⟨n,e⟩:=p;simp only [C]
      match n with
      |0=>rfl| 1=>
        show strOf h (ρ x)=strOf i (ρ x);unfold touch at q;simp only []at q;unfold strOf;cases F:ρ x<;>rw [F]at q<;>(try rfl);rename_i a l c;cases a with
        |none=>rfl|some a=>simp only []at q⊢;rw [Ag (q _ rfl)]
      |n+2=>rfl
 case call c =>
  cases s:c.callee with
  |value f=>simp [cls,s]at z|invoke r n=>simp [cls,s]at z| builtin b =>
    cases b<;>(try (simp [cls,s]at z;done))
    case len =>
     refine ⟨fun h=>match pop E ρ (.call c)with
      |some v=>some v| none => match c.args.toList with
        | x ::_=>match ρ x with
          | .map (some r)=>match h.get r with
            | some (.map I _)=>match c.argTypes.toList with
              | t::_=>match E.und t with
                |some (.map _ _)=>some (.int .i64 (.ofNat I.length))|_=>none
              |_=>none
            |_=>none
          |_=>none
        |_=>none,fun h=>?_,fun u=>by simp [cls,s]at u,fun h i q=>?_⟩
     . simp only [aop,s];cases pop E ρ (.call c)with
       |some v=>rfl| none=>
         simp only [];cases K:c.args.toList with
         |nil=>rfl| cons x L=>
           simp only [];cases F:ρ x<;>(try rfl);rename_i r;cases r with
           |none=>rfl| some r=>
             simp only [];cases M:h.get r with
             |none=>rfl| some y=>
               cases y<;>(try rfl);cases J:c.argTypes.toList with
               |nil=>rfl| cons t N=>
                 simp only [];cases O:E.und t with
                 |none=>rfl|some d=>cases d<;>rfl
     . show _=_;cases pop E ρ (.call c)with
       |some v=>rfl| none=>simp only [];unfold touch at q;grind
    all_goals simp_all[aop]
 all_goals first
  |exact w (fun _=>rfl)|(exfalso;simp [cls]at z;done)
theorem dA{a:Nat}{x:Blk}(c:b≠a):(h.put b x).get a=h.get a:=by rw [Hp.get_put,if_neg (fun e=>c e.1)]
theorem tT{x:Blk}(a:OZ h)(c:b<h.n):(h.new x).get b=h.get b:=by rw [Hp.get_new h x a,if_neg (by omega)]
theorem qy{c:Hp}{o:Nat}{l:List Value}(e:h.store b o l=some c){a:Nat}(d:b≠a):c.get a=h.get a:=by grind[Hp.store,dA]
theorem qf{t:TypeId}{m k:Value}{r:Nat}{a:List (Value×Value×Nat)}{el:TypeId}(b:kP E h t m k=some (r,a,c,el)):
 m=.map (some r)/\h.get r=some (.map a c)/\ ∃kt,E.und t=some (.map kt el)/\bQ E kt k=true:=by
 unfold kP at b;grind
theorem w_only    {A:Hp} {nx:dM} (U:OZ h) (w:cls E op=2\/cls E op=5) (g:aop E ρ h op=some (nx,A)):
 ∀b,b<h.n->touch ρ op≠some b->A.get b=h.get b:=by
 intro b V ht;have H: ∀{r:Option (Hp×Value)},dD r=some (nx,A)-> ∃v,r=some (A,v):=by
  intro r B;cases r with
  |none=>cases B
  |some q=>obtain⟨a,b⟩:=q;cases B;grind
 have D: ∀{r:Option Hp},fU r=some (nx,A)->r=some A:=by
  intro r B;cases r with
  |none=>cases B
  |some q=>cases B;rfl
 cases op
 case store t a x=>have d:=D g;grind[jV,touch,Xe,ae,qy]
 case mapUpdate t m k v=>
  have d:=D g;unfold d6 at d
  split at d
  next=>cases d
  next r F c G y=>
   obtain⟨I,_,_⟩:=qf y;grind[touch,dA]
 case insert t m k v=>
  have d:=D g;unfold d6 at d
  split at d
  next=>cases d
  next r F c G y=>
   obtain⟨I,_,_⟩:=qf y;grind[touch,dA]
 case mapEntry t m k=>
  obtain⟨v,d⟩:=H g;unfold kY at d
  split at d
  next=>cases d
  next r F c G y=>
   obtain⟨I,_,_⟩:=qf y;grind[touch,dA]
 case entryStore t m s v=>
  have d:=D g;unfold m8 at d
  split at d
  next r B=>
   have j:r≠b:=by grind[touch]
   split at d
   next F c W=>grind[dA]
   next=>cases d
  next=>cases d
 case call c =>
  cases l:c.callee with
  |value f=>simp [cls,l]at w|invoke r n=>simp [cls,l]at w| builtin X =>
    cases X<;>(try (simp [cls,l]at w;done))
    case append =>
     simp only [aop,l]at g
     split at g
     next s x Q o =>
      obtain⟨v,d⟩:=H g;unfold dK at d
      split at d
      next t tx R =>
       split at d
       next =>
        unfold lH at d
        split at d
        next e Y=>
         split at d
         next=>cases d
         next i hi =>
          split at d
          next a z C J=>
           have j: ∀u,a=some u->u.block≠b:=by grind[touch]
           split at d
           next=>cases d
           next n K S=>
            unfold gX at d;cases T:Xm (z+n) C with
            | true=>
              rw [T]at d;simp only [cond_true]at d
              split at d
              next=>cases d;rfl
              next u=>
               split at d
               next=>cases d;rfl
               next=>
                split at d
                next=>cases d
                next L p=>cases d;exact qy p (j _ rfl)
            | false =>
              rw [T]at d;simp only [cond_false]at d;cases M:(Xm ((z+n)*(i.bytes+1)) 70368744177664&&(Xl 0 i.bytes))with
              |false=>grind| true =>
                rw [M]at d;simp only [cond_true]at d
                split at d
                next=>cases d
                next Z hz=>
                 cases N:Xe Z.length i.size with
                 |false=>grind| true=>
                   rw [N]at d;simp only [cond_true]at d;unfold pV at d
                   split at d
                   next=>grind[Xe,tT]
                   next u=>
                    split at d
                    next tr sz G md W=>
                     split at d
                     next=>cases d
                     next t2 s2 af=>
                      split at d
                      next k' ai=>
                       cases O:(Xe k' i.size&& !Nat.beq md 0&&K.all mM)with
                       |false=>grind| true=>
                         rw [O]at d;cases d;rw [tT (h:=h.put u.block .dead) (Tr.sized_set _ _ U) V];exact dA (j _ rfl)
                      grind[tT]
                    next=>cases d
          next=>cases d
        next=>cases d
       next=>cases d
      next=>cases d
     next=>cases g
    case copy =>
     simp only [aop,l]at g
     split at g
     next s x Q o=>
      obtain⟨v,d⟩:=H g;unfold copyV at d
      split at d
      next t R=>
       split at d
       next e Y=>
        split at d
        next=>cases d
        next k hk=>
         split at d
         next a z C J=>
          have j: ∀u,a=some u->u.block≠b:=by grind[touch]
          split at d
          next=>cases d;rfl
          next=>
           split at d
           next=>cases d
           next=>cases d;rfl
           next=>
            split at d
            next=>cases d
            next u=>
             split at d
             next=>cases d
             next L p=>cases d;exact qy p (j _ rfl)
          next s=>
           cases P:Xe k 1 with
           |false=>grind| true=>
             rw [P]at d;simp only [cond_true]at d
             split at d
             next=>cases d;rfl
             next=>
              split at d
              next=>cases d
              next u=>
               split at d
               next=>cases d
               next L p=>cases d;exact qy p (j _ rfl)
          next=>cases d
         next=>cases d
       next=>cases d
      next=>cases d
     next=>cases g
    case delete=>
     simp only [aop,l]at g
     split at g
     next t R m k Q ak o=>
      split at g
      next=>cases g
      next L d=>
       cases g;unfold oq at d
       split at d
       next=>cases d
       next r F c G y=>
        obtain⟨I,_,_⟩:=qf y;grind[touch,dA]
     next=>cases g
 case convert al ax x=>grind[cls]
 all_goals first
  |(exfalso;simp [cls]at w;done)
  |(exfalso;unfold cls at w;simp only []at w;split at w<;>simp at w;done)
theorem oN{b:Value}(h:cF a b=some true):a=b:=by
 unfold cF at h;cases a<;>(try (simp at h;done))<;>cases b<;>(try (simp at h;done))
 . grind
 . grind[iU,iW]
 . rename_i s u;simp only []at h;rw [kH]at h;simp at h;have:s=u:=(by cases s;cases u;simp [aM]at h;simp [h]);subst this;rfl
 . rename_i x y;simp only []at h;have:=(sc _ _ h).2.2.2.1 rfl;simp_all
theorem Ad{kd:IntKind}: ∀(l m:List Value),(∀v∈l,∃x,v=.int kd x)->(∀v∈m,∃x,v=.int kd x)->l.length=m.length-> ∃r,dP l m=some r
 | [],[],_,_,_=>⟨true,rfl⟩| a::l,b::m,c,d,e=>by
   obtain⟨x,rfl⟩:=c a (by simp);obtain⟨y,rfl⟩:=d b (by simp);obtain⟨r,f⟩:=Ad l m (fun v h=>c v (by simp [h])) (fun v h=>d v (by simp [h])) (by simpa using e);simp_all[jg,dP,iU,decide_true,cond_true]
 | [],_::_,_,_,h=>by simp at h|_::_,[],_,_,h=>by simp at h
theorem tC{kt:TypeId}{b:Value}(c:bQ E kt a=true)(e:bQ E kt b=true): ∃r,cF a b=some r:=by
 unfold bQ at c e;cases f:E.und kt with
 |none=>simp [f]at c| some d=>
   cases g:iO d with
   | true=>
     cases d<;>simp only [iO]at g<;>try (cases g;done)
     obtain⟨p,q,rfl,_,_,i,j,l⟩:=pu (E:=E) (kt:=kt) (k:=a) f (by unfold bQ;exact c);obtain⟨s,m,rfl,_,_,n,h,o⟩:=pu (E:=E) (kt:=kt) (k:=b) f (by unfold bQ;exact e);rw [j]at h;cases h;exact Ad _ _ l o (by rw [i,n])
   |false=>
   simp only [f]at c e;cases d<;>simp only []at c e<;>(try (cases c;done))<;>(try (cases g;done))
   . cases a<;>simp only []at c<;>try (cases c;done)
     cases b<;>simp only []at e<;>try (cases e;done)
     exact⟨_,rfl⟩
   . cases a<;>simp only []at c<;>try (cases c;done)
     cases b<;>simp only []at e<;>try (cases e;done)
     simp_all[iU,decide_eq_true_eq,jg,cF]
   . cases a<;>simp only []at c<;>try (cases c;done)
     cases b<;>simp only []at e<;>try (cases e;done)
     exact⟨_,rfl⟩
theorem At{k v:Value}{n:Nat}: ∀{a:List (Value×Value×Nat)},bI k a=some (some (v,n))->jS k v a=a
 | [],h=>by cases h
 | (d,e,f)::l,h=>by
   simp only [bI,jS]at h⊢;cases c:cF k d with
   |none=>rw [c]at h;cases h
   | some b=>
     rw [c]at h;cases b with
     |true=>simp only []at h⊢;cases h;rw [oN c]
     |false=>simp only []at h⊢;rw [At h]
theorem ui{k a z:Value}{c:Nat}: ∀(d:List (Value×Value×Nat)),bI k (d++[(a,z,c)])=(match bI k d with
 |none=>none|some (some x)=>some (some x)| some none=>match cF k a with
   |none=>none|some true=>some (some (z,c))|some false=>some none)
 | []=>by rfl| (e,f,g)::l=>by
   simp only [List.cons_append,bI];cases h:cF k e with
   |none=>rfl| some b=>
     cases b with
     |true=>rfl|false=>simp only [];exact ui l
theorem look_ent  {t:TypeId} {m k:Operand}  {i:Hp} {nx:dM} (f:aop E ρ h (.mapEntry t m k)=some (nx,i)) (j l:Value):
 dw E i t j l false=dw E h t j l false:=by
 obtain⟨v,e⟩: ∃v,kY E h t (ρ m) (ρ k)=some (i,v):=by
  simp only [aop]at f;cases p:kY E h t (ρ m) (ρ k)with
  |none=>rw [p]at f;cases f
  |some q=>rw [p]at f;obtain⟨a,b⟩:=q;cases f;grind
 unfold kY at e
 split at e
 next=>cases e
 next r y c A s=>
  obtain⟨B,n,u,w,C⟩:=qf s;have d:(h.get r).isSome=true:=by rw [n];rfl
  unfold dw;simp only [w];cases hf:bQ E u l with
  |false=>rfl| true =>
    simp only [cond_true,cond_false];cases j<;>(try rfl);rename_i o;cases o with
    |none=>rfl| some o=>
      simp only [];by_cases x:r=o
      . subst x
        split at e
        next=>cases e
        next D F g=>
         cases e;rw [Hp.get_put,if_pos ⟨rfl,d⟩,n,At g]
        next g=>
         split at e
         next=>cases e
         next z G=>
          cases e;rw [Hp.get_put,if_pos ⟨rfl,d⟩,n];grind[ui,bI,tC,hf]
      grind[dA]
def cut(mu:Mu)(n:Nat):Mu:=fun b=>if b<n then mu b else .none
theorem fD(h:b<n):cut mu n b=mu b:=by simp [cut,h]
theorem qc(h:n<=b):cut mu n b=.none:=by simp [cut,Nat.not_lt.2 h]
theorem fK.in{a b:Addr}(h:fK mu a b):mu a.block≠ .none:=by grind[fK]
theorem eB.in{a b:Addr}{c':Nat}(h:eB mu a c b c'):mu a.block≠ .none:=by grind[eB]
theorem dW.in(h:dW mu b c):mu b≠ .none:=by grind[dW]
theorem fK.cut{mu:Mu}{n:Nat}{a b:Addr}(h:fK mu a b)(c:a.block<n):fK (cut mu n) a b:=by grind[fK,fD]
theorem eB.cut{mu:Mu}{n:Nat}{a b:Addr}{c c':Nat}(h:eB mu a c b c')(d:a.block<n):eB (cut mu n) a c b c':=by grind[eB,fD]
theorem dW.cut{mu:Mu}{n:Nat}{b c:Nat}(h:dW mu b c)(a:b<n):dW (cut mu n) b c:=by grind[dW,fD]
theorem aw.cut{mu e:Mu}{n:Nat}(f: ∀b,e b≠ .none->b<n){v t:Value}(w:aw e v t): ∀{v':Value},aw mu v v'->aw (cut mu n) v v':=by
 induction w with
 |poison v=>intro v' _;exact .poison v'|bool b=>intro v' h;cases h;exact .bool b
 |int k m=>intro v' h;cases h;exact .int k m
 |string s=>intro v' h;cases h;exact .string s
 |nilp=>intro v' h;cases h;exact .nilp
 |ptr a=>intro v' h;cases h;rename_i c;exact .ptr (c.cut (f _ a.in))
 |nils=>intro v' h;cases h;exact .nils
 |slice l a=>intro v' h;cases h;rename_i g c;exact .slice c (g.cut (f _ a.in))
 |nilm=>intro v' h;cases h;exact .nilm
 |map a=>intro v' h;cases h;rename_i c;exact .map (c.cut (f _ a.in))
 | fn p q y z r A=>
   intro v' h;cases h;rename_i c g x B;refine .fn c (fun i u j o d=>?_) x (fun i u j o d=>?_)
   . grind
   grind
 |yield a=>intro v' h;cases h;rename_i c;exact .yield (c.cut (f _ a.in))
 |nilf=>intro v' h;cases h;exact .nilf
 |nili=>intro v' h;cases h;exact .nili
 |iface _ i=>intro v' h;cases h;rename_i c;exact .iface (i c)
 | agg p q r=>
   intro v' h;cases h;rename_i c g;refine .agg c (fun i u j o d=>?_);grind
 | tuple p q r=>
   intro v' h;cases h;rename_i c g;refine .tuple c (fun i u j o d=>?_);grind
def Sub(q a:Nat):Prop:= ∀i,q.testBit i=true->a.testBit i=true
theorem pM(a b i:Nat):(Xq a b).testBit i=(a.testBit i||b.testBit i):=Nat.testBit_or a b i
theorem sg(n i:Nat):(Nat.pow 2 n).testBit i=decide (n=i):=Nat.testBit_two_pow
def binds(e:Edge):Bool:=Region.binds .any e
def rE(ops:List Oper)(M:List Nat)(i:Nat):Prop:= ∀o,ops[i]? =some o-> ∃m,M[i]? =some m/\(∀e∈o.after.toList,binds e=true->e.on<i)/\
 ∀b,m.testBit b=true-> ∃e∈o.after.toList,binds e=true/\(b=e.on\/ ∃a,M[e.on]? =some a/\a.testBit b=true)
theorem Bx (acc:List Nat): ∀(c:List Edge) (f:Option Nat) (m:Nat),c.foldl (fun s e=>match s with
 |none=>none| some s=>match e.ground with
   | .textOnly _=>some s| .gcOnly _=>some s| _=>match acc[acc.length-1-e.on]? with
     |none=>none|some m=>bif Xl e.on acc.length then some (Xq (Xq s (Nat.pow 2 e.on)) m)else none) f=some m->
 ∃ s,f=some s/\(∀e∈c,binds e=true->e.on<acc.length)/\
   ∀b,m.testBit b=true->s.testBit b=true\/ ∃e∈c,binds e=true/\(b=e.on\/ ∃d,acc.reverse[e.on]? =some d/\d.testBit b=true)
 | [],f,m,h=>⟨m,h,by simp,fun b k=>.inl k⟩
 | e ::c,f,m,h=>by
   rw [List.foldl_cons]at h;obtain⟨l,p,u,q⟩:=Bx acc c _ m h;cases f with
   |none=>cases p
   | some s=>
     refine⟨s,rfl,?_⟩;have skip:binds e=false->l=s->(∀a∈e::c,binds a=true->a.on<acc.length)/\
      ∀b,m.testBit b=true->s.testBit b=true\/ ∃a∈e::c,binds a=true/\(b=a.on\/ ∃d,acc.reverse[a.on]? =some d/\d.testBit b=true):=by
      grind
     have n:binds e=true->(match acc[acc.length-1-e.on]? with
      |none=>none|some m=>bif Xl e.on acc.length then some (Xq (Xq s (Nat.pow 2 e.on)) m)else none)=some l->(∀a∈e::c,binds a=true->a.on<acc.length)/\
      ∀b,m.testBit b=true->s.testBit b=true\/ ∃a∈e::c,binds a=true/\(b=a.on\/ ∃d,acc.reverse[a.on]? =some d/\d.testBit b=true):=by
      intro k g
      split at g
      next=>cases g
      next m0 r=>
       cases hlt:Xl e.on acc.length with
       |false=>grind| true=>
         rw [hlt]at g;cases g;have o:e.on<acc.length:=(by simp_all);refine⟨fun a i t=>?_,fun b j=>?_⟩
         . grind
         . rcases q b j with x|⟨a,i,x⟩
           . rw [pM,pM,sg]at x;grind
           grind
     grind[Option.some.injEq,binds,Region.binds]
theorem wh: ∀(os:List Oper) (acc a:List Nat),befs os acc=some a->a.length=acc.length+os.length/\(∀i,i<acc.length->a.reverse[i]? =acc.reverse[i]?)/\
 ∀ j o,os[j]? =some o-> ∃m,a.reverse[acc.length+j]? =some m/\(∀e∈o.after.toList,binds e=true->e.on<acc.length+j)/\
   ∀b,m.testBit b=true-> ∃e∈o.after.toList,binds e=true/\(b=e.on\/ ∃f,a.reverse[e.on]? =some f/\f.testBit b=true)
 | [],acc,a,h=>by cases h;grind
 | o ::os,acc,a,h=>by
   simp only [befs]at h
   split at h
   next=>cases h
   next s g=>
    obtain⟨p,k,q,r⟩:=Bx acc _ _ _ g;cases k;obtain⟨t,u,l⟩:=wh os (s::acc) a h;have c: ∀i,i<acc.length->a.reverse[i]? =acc.reverse[i]? :=(by grind);refine⟨by grind,c,fun j n d=>?_⟩;cases j with
    | zero=>grind| succ j=>
      obtain⟨m,m1,m2,m3⟩:=l j n (by simpa using d);have v:(s::acc).length+j=acc.length+(j+1):=(by simp;omega);simp_all
def Owe(E:Env)(ops:List Oper)(o p:Oper)(i n q:Nat)(l:List (Nat×Nat)):Prop:=
 ul ops o p=true/\(cls E o.op=0\/cls E p.op=0\/(cls E o.op=1/\cls E p.op=1)\/(cls E o.op=2/\cls E p.op=1/\(qP o.op p.op=true\/(i,n)∈l))\/
  (cls E o.op=1/\cls E p.op=2/\(qP p.op o.op=true\/(i,n)∈l))\/(cls E o.op=5/\cls E p.op=1/\(i,n)∈l)\/(cls E o.op=1/\cls E p.op=5/\(i,n)∈l)\/
  (cls E o.op≠2/\cls E p.op≠2/\(cls E p.op=3\/cls E p.op=5->q.testBit i=true)/\(cls E o.op=3\/cls E o.op=5->q.testBit n=true))\/
  (cls E o.op=3/\cls E p.op=1/\dN o.op=true/\(i,n)∈l)\/(cls E o.op=1/\cls E p.op=3/\dN p.op=true/\(i,n)∈l)\/(cls E o.op=3/\cls E p.op=4/\dN o.op=true/\fJ p.op=true/\(i,n)∈l)\/
  (cls E o.op=2/\cls E p.op=3/\qg ops o n i=true/\q.testBit i=true))
theorem Owe.mono{ops:List Oper}{e:Nat}{l l':List (Nat×Nat)}(hq:Sub q e)(j: ∀x∈l,x∈l')(h:Owe E ops o p i n q l):Owe E ops o p i n e l':=by
 obtain⟨f,g⟩:=h;refine⟨f,?_⟩;rcases g with h|h|h|⟨a,b,h⟩|⟨a,b,h⟩|⟨a,b,h⟩|⟨a,b,h⟩|⟨a,b,c,d⟩|⟨a,b,c,h⟩|⟨a,b,c,h⟩|⟨a,b,c,d,h⟩|⟨a,b,c,h⟩
 . exact .inl h
 . grind
 . omega
 . grind
 . grind
 . grind
 . grind
 . exact .inr (.inr (.inr (.inr (.inr (.inr (.inr (.inl ⟨a,b,fun x=>hq _ (c x),fun x=>hq _ (d x)⟩)))))))
 . grind
 . grind
 . grind
 . exact .inr (.inr (.inr (.inr (.inr (.inr (.inr (.inr (.inr (.inr (.inr ⟨a,b,c,hq _ h⟩))))))))))
theorem owed_ok {E:Env} {ops:List Oper} {o:Oper} {m n:Nat}: ∀(ps:List Oper) (i:Nat) (q:Nat) (l:List (Nat×Nat)) (g:Nat) (l':List (Nat×Nat)),jY E ops o m n ps i (q,l)=some (g,l')->
 Sub q g/\(∀x∈l,x∈l')/\ ∀j p,ps[j]? =some p->m.testBit (i+j)=false->Owe E ops o p (i+j) n g l'
 | [],i,q,l,g,l',h=>by cases h;exact⟨fun _ x=>x,fun _ x=>x,fun j p y=>by simp at y⟩
 | p :: ps,i,q,l,g,l',h=>by
   have next: ∀{r:Nat} {s:List (Nat×Nat)},jY E ops o m n ps (i+1) (r,s)=some (g,l')->Sub q r->(∀x∈l,x∈s)->(m.testBit i=false->Owe E ops o p i n r s)->
    Sub q g/\(∀x∈l,x∈l')/\ ∀j u,(p::ps)[j]? =some u->m.testBit (i+j)=false->Owe E ops o u (i+j) n g l':=by
    intro r s z A B C;obtain⟨v,w,D⟩:=owed_ok ps (i+1) r s g l' z;refine⟨fun x c=>v x (A x c),fun x c=>w x (B x c),fun j u k t=>?_⟩;cases j with
    | zero=>simp at k;subst k;exact(C t).mono v w| succ j=>have:=D j u (by simpa using k) (by rw [show i+1+j=i+(j+1) by omega];exact t);rwa [show i+1+j=i+(j+1) by omega]at this
   simp only [jY]at h;cases t:m.testBit i with
   | true=>
     rw [t]at h;exact next h (fun _ x=>x) (fun _ x=>x) (fun hf=>by grind)
   | false=>
     rw [t]at h;simp only [cond_false]at h;cases d:ul ops o p with
     |false=>grind| true=>
       rw [d]at h;simp only [cond_true]at h
       split at h
       next a=>exact next h (fun _ x=>x) (fun _ x=>x) (fun _=>⟨d,.inl a⟩)
       next b _=>exact next h (fun _ x=>x) (fun _ x=>x) (fun _=>⟨d,.inr (.inl b)⟩)
       next a b=>exact next h (fun _ x=>x) (fun _ x=>x) (fun _=>⟨d,.inr (.inr (.inl ⟨a,b⟩))⟩)
       next a b=>
        refine next h (fun _ x=>x) ?_ (fun _=>⟨d,.inr (.inr (.inr (.inl ⟨a,b,?_⟩)))⟩)
        . grind
        grind
       next a b=>
        refine next h (fun _ x=>x) ?_ (fun _=>⟨d,.inr (.inr (.inr (.inr (.inl ⟨a,b,?_⟩))))⟩)
        . grind
        grind
       next a b=>
        exact next h (fun _ x=>x) (fun x c=>Xa _ c) (fun _=>⟨d,.inr (.inr (.inr (.inr (.inr (.inl ⟨a,b,Xc⟩)))))⟩)
       next a b=>
        exact next h (fun _ x=>x) (fun x c=>Xa _ c) (fun _=>⟨d,.inr (.inr (.inr (.inr (.inr (.inr (.inl ⟨a,b,Xc⟩))))))⟩)
       next a b=>
        cases f:dN o.op with
        | true=>
          rw [f]at h;exact next h (fun _ x=>x) (fun x c=>Xa _ c) (fun _=>⟨d,.inr (.inr (.inr (.inr (.inr (.inr (.inr (.inr (.inl ⟨a,b,f,Xc⟩))))))))⟩)
        | false=>
          rw [f]at h;refine next h (fun x c=>by simp_all) (fun _ x=>x) (fun _=>⟨d,.inr (.inr (.inr (.inr (.inr (.inr (.inr (.inl ⟨by omega,by omega,fun e=>by omega,fun _=>?_⟩)))))))⟩)
          simp_all
       next a b=>
        cases f:dN p.op with
        | true=>
          rw [f]at h;exact next h (fun _ x=>x) (fun x c=>Xa _ c) (fun _=>⟨d,.inr (.inr (.inr (.inr (.inr (.inr (.inr (.inr (.inr (.inl ⟨a,b,f,Xc⟩)))))))))⟩)
        | false=>
          rw [f]at h;refine next h (fun x c=>by simp_all) (fun _ x=>x) (fun _=>⟨d,.inr (.inr (.inr (.inr (.inr (.inr (.inr (.inl ⟨by omega,by omega,fun _=>?_,fun e=>by omega⟩)))))))⟩)
          simp_all
       next a b=>
        cases f:dN o.op&&fJ p.op with
        | true=>
          rw [f]at h;simp only [zO]at f;exact next h (fun _ x=>x) (fun x c=>Xa _ c) (fun _=>⟨d,.inr (.inr (.inr (.inr (.inr (.inr (.inr (.inr (.inr (.inr (.inl ⟨a,b,f.1,f.2,Xc⟩))))))))))⟩)
        | false=>
          rw [f]at h;refine next h (fun x c=>by simp_all) (fun _ x=>x) (fun _=>⟨d,.inr (.inr (.inr (.inr (.inr (.inr (.inr (.inl ⟨by omega,by omega,fun e=>by omega,fun _=>?_⟩)))))))⟩)
          simp_all
       next a b=>
        cases f:qg ops o n i with
        | true=>
          rw [f]at h;refine next h (fun x c=>by simp_all) (fun _ x=>x) (fun _=>⟨d,.inr (.inr (.inr (.inr (.inr (.inr (.inr (.inr (.inr (.inr (.inr ⟨a,b,f,?_⟩))))))))))⟩)
          simp_all
        |false=>grind
       next=>cases h
       next=>cases h
       next=>
        refine next h ?_ (fun _ x=>x) (fun _=>⟨d,.inr (.inr (.inr (.inr (.inr (.inr (.inr (.inl ⟨?_,?_,?_,?_⟩)))))))⟩)
        . intro x c;simp_all
        . omega
        . omega
        . grind[pM,Xe,cls,sg]
        grind[pM,Xe,cls,sg]
theorem yT {E:Env} {ops:List Oper}: ∀(os:List Oper) (b:List Nat) (n q:Nat) (l:List (Nat×Nat)) (a:Nat) (l':List (Nat×Nat)),vS E ops os b n (q,l)=some (a,l')->
 Sub q a/\(∀x∈l,x∈l')/\ ∀j o,os[j]? =some o->(cls E o.op=4->a.testBit (n+j)=true)/\
  ∃m,b[j]? =some m/\ ∀i p,i<n+j->ops[i]? =some p->m.testBit i=false->Owe E ops o p i (n+j) a l'
 | [],b,n,q,l,a,l',h=>by cases b<;>(cases h;exact⟨fun _ x=>x,fun _ x=>x,fun j o k=>by simp at k⟩)
 |o::os,[],n,q,l,a,l',h=>by cases h
 | o :: os,m::b,n,q,l,a,l',h=>by
   simp only [vS]at h
   split at h
   next=>cases h
   next r s t=>
    obtain⟨u,v,w⟩:=owed_ok _ _ _ _ _ _ t;obtain⟨e,f,y⟩:=yT os b (n+1) _ s a l' h;have g:Sub r a:=by
     intro x c;apply e;cases Xe (cls E o.op) 4 with
     |true=>simp_all|false=>exact c
    refine⟨fun x c=>g x (u x c),fun x c=>f x (v x c),fun j z d=>?_⟩;cases j with
    | zero=>
      simp at d;subst d;refine⟨fun A=>?_,m,rfl,fun i p B C D=>?_⟩
      . apply e;simp_all
      . have:=w i p (by grind) (by grind);rw [Nat.zero_add]at this;exact this.mono g f
    | succ j=>grind
theorem plan_ok{ops:List Oper}{ps:List (Nat×Nat)}(h:jT E ops=some (q,ps)):
 ∃ M:List Nat,(∀i,rE ops M i)/\ ∀n o,ops[n]? =some o->(cls E o.op=4->q.testBit n=true)/\
   ∀m,M[n]? =some m-> ∀i p,i<n->ops[i]? =some p->m.testBit i=false->Owe E ops o p i n q ps:=by
 unfold jT at h
 split at h
 next=>cases h
 next b a=>
  obtain⟨_,_,d⟩:=wh _ _ _ a;obtain⟨_,_,e⟩:=yT _ _ _ _ _ _ _ h;refine⟨b.reverse,fun i o c=>?_,fun n o c=>?_⟩
  . simp_all
  grind
inductive vZ(E:Env)(R:Rec)(ops:List Oper)(q i:Nat)(o:Oper)(l:Loc)(h:Hp):Loc->Hp->Option Nat->Bool->Prop
 |skip:cJ ops l.regs o=some false->vZ E R ops q i o l h (l.put o.dst (.tuple #[])) h none false
 |exec {v:Value} {h':Hp}:cJ ops l.regs o=some true->di E R (l.evD (tmpsOf o.op.operands.toList)) (fF E q i o.op) o h=some (v,h')->
  vZ E R ops q i o l h (l.put o.dst v) h' (jR (l.evD (tmpsOf o.op.operands.toList)) o.op h) true
theorem Ct{E:Env}{R:Rec}{ops:List Oper}{q:Nat}: ∀(os:List Oper) (i:Nat) (l:Loc) (h:Hp) (d:List (Nat×Tch)) (l':Loc) (h':Hp) (a:List (Nat×Tch)),bZ E R ops q os i l h d=some (l',h',a)->
 (∀k,k<i->cZ k a=cZ k d)/\
 ∃ (L:Nat->Loc) (H:Nat->Hp) (T:Nat->Option Nat) (X:Nat->Bool),L i=l/\H i=h/\L (i+os.length)=l'/\H (i+os.length)=h'/\
   (∀j o,os[j]? =some o->vZ E R ops q (i+j) o (L (i+j)) (H (i+j)) (L (i+j+1)) (H (i+j+1)) (T (i+j)) (X (i+j)))/\
   (∀j o b,os[j]? =some o->dN o.op=false->T (i+j)=some b->cZ (i+j) a=some (.blk b))/\
   (∀j o,os[j]? =some o->dN o.op=true->X (i+j)=true->fF E q (i+j) o.op=false->cZ (i+j) a=some (.run (H (i+j)) (H (i+j+1))))
 | [],i,l,h,d,l',h',a,f=>by
   cases f;exact⟨fun _ _=>rfl,fun _=>l,fun _=>h,fun _=>none,fun _=>false,rfl,rfl,rfl,rfl,fun j o n=>by simp at n,fun j o b n=>by simp at n,fun j o n=>by simp at n⟩
 | o ::os,i,l,h,d,l',h',a,f=>by
   have next: ∀{r:Loc} {m:Hp} {c:List (Nat×Tch)} {t:Option Nat} {x:Bool} {nt:Option Tch},bZ E R ops q os (i+1) r m c=some (l',h',a)->c=iR i d nt->vZ E R ops q i o l h r m t x->
    (dN o.op=false-> ∀b,t=some b->nt=some (.blk b))->(dN o.op=true->x=true->fF E q i o.op=false->nt=some (.run h m))->
    (∀k,k<i->cZ k a=cZ k d)/\
    ∃ (L:Nat->Loc) (H:Nat->Hp) (T:Nat->Option Nat) (X:Nat->Bool),L i=l/\H i=h/\L (i+(o::os).length)=l'/\H (i+(o::os).length)=h'/\
      (∀j o',(o::os)[j]? =some o'->vZ E R ops q (i+j) o' (L (i+j)) (H (i+j)) (L (i+j+1)) (H (i+j+1)) (T (i+j)) (X (i+j)))/\
      (∀j o' b,(o::os)[j]? =some o'->dN o'.op=false->T (i+j)=some b->cZ (i+j) a=some (.blk b))/\
      (∀j o',(o::os)[j]? =some o'->dN o'.op=true->X (i+j)=true->fF E q (i+j) o'.op=false->cZ (i+j) a=some (.run (H (i+j)) (H (i+j+1)))):=by
    intro r m c t x nt s p G I J;obtain⟨y,L,H,T,X,K,M,N,O,P,Q,S⟩:=Ct os (i+1) r m c l' h' a s;have g: ∀k,k<i->cZ k c=cZ k d:=by
     intro k z;rw [p];cases nt with
     |none=>rfl| some b=>
       show(bif Xe k i then some b else cZ k d)=_;rw [cS,decide_eq_false (by omega)];rfl
    have A: ∀e,nt=some e->cZ i a=some e:=(by intro e B;rw [y i (by omega),p,B];show(bif Xe i i then some e else cZ i d)=_;simp_all);refine⟨fun k z=>(y k (by omega)).trans (g k z),fun k=>if k=i then l else L k,fun k=>if k=i then h else H k,fun k=>if k=i then t else T k,fun k=>if k=i then x else X k,by simp,by simp,?_,?_,?_,?_,?_⟩
    . grind
    . grind
    . grind
    . grind
    grind
   simp only [bZ]at f
   split at f
   next=>cases f
   next u=>exact next (t:=none) (nt:=none) f rfl (.skip u) (fun _ b e=>by cases e) (fun _ e=>by cases e)
   next u=>
    split at f
    next=>cases f
    next v m C=>
     refine next f rfl (.exec u C) (fun w b D=>?_) (fun w _ F=>?_)
     . unfold cQ;rw [w,D];rfl
     . unfold cQ;rw [w,F];rfl
theorem tE{b:List (Nat×Tch)}: ∀{ps:List (Nat×Nat)},cR b ps=true-> ∀{i j:Nat},(i,j)∈ps->jt (cZ i b) (cZ j b)=true
 | [],_,i,j,a=>by cases a
 | (c,d)::ps,h,i,j,a=>by
   simp only [cR,zO]at h;rcases List.mem_cons.1 a with e|a
   . cases e;exact h.1
   . exact tE h.2 a
theorem wR{a b:Addr}(h:sameAddr a b=true):a=b:=by
 unfold sameAddr at h;simp only [zO]at h;obtain⟨⟨f,g⟩,c⟩:=h;have d:=zM f;have e:=zM g;obtain⟨x,y,z⟩:=a;obtain⟨j,k,i⟩:=b;simp only []at d e c;subst d e;cases z<;>cases i<;>simp at c
 . rfl
 . subst c;rfl
theorem rJ{b:Value}(h:sF a b=true):a=b:=by
 unfold sF at h
 split at h
 next t c=>subst h;exact oN c
 next=>
  split at h
  next=>rfl
  next=>rw [wR h]
  next=>simp_all
  next=>simp only [zO]at h;grind[wR,zM]
  next=>rfl
  next=>simp_all
  next=>rfl
  next=>rfl
  next=>cases h
theorem Ar: ∀{l m:List Value},uV l m=true->l=m
 | [],[],_=>rfl| [],_::_,h=>by cases h
 |_::_,[],h=>by cases h
 | x::l,y::m,h=>by simp only [uV,zO]at h;rw [rJ h.1,Ar h.2]
theorem zG{b:Value}(h:yY a b=true):a=b:=by
 unfold yY at h
 split at h
 next g x y c d e=>simp only [zO]at h;grind[zM,Array.toList_inj,Ar]
 next=>simp only [zO]at h;rw [zM h.1,rJ h.2]
 next=>exact rJ h
theorem xk: ∀{t u:Tr Value},sameT t u=true->t=u
 | .nil,.nil,_=>rfl| .nil,.node ..,h=>by cases h
 | .node ..,.nil,h=>by cases h
 | .node x l r,.node a b c,h=>by simp only [sameT,zO]at h;rw [zG h.1,xk h.2.1,xk h.2.2]
theorem A7: ∀{l m:List (Value×Value×Nat)},sameE l m=true->l=m
 | [],[],_=>rfl| [],_::_,h=>by cases h
 |_::_,[],h=>by cases h
 | (k,x,n)::l,(a,y,m)::b,h=>by simp only [sameE,zO]at h;rw [rJ h.1,zG h.2.1,zM h.2.2.1,A7 h.2.2.2]
theorem sameB_ok{x y:Blk}(h:sameB x y=true):x=y:=by
 unfold sameB at h;rw [Bool.or_eq_true]at h;rcases h with h|h
 . split at h
   next=>simp only [zO]at h;grind[xk,zM]
   next=>simp only [zO]at h;rw [zM h.1,A7 h.2]
   next=>cases h
 grind
theorem Aw(e:leaves h h' b=true):h'.get b=h.get b:=by grind[leaves,sameB_ok]
theorem pR(e:h'.get b=h.get b):leaves h h' b=true:=by
 unfold leaves;rw [e];cases h.get b with
 |none=>rfl| some x=>show sameB x x=true;unfold sameB;grind
theorem hrel_lo(a:bg mu h w)(x:Nat):bg mu {h with lo:=x} w:=⟨a.sized,a.blk,a.dead,a.inj,a.lt⟩
theorem CA{d:Operand->Value}(g: ∀x,aw mu (ρ x) (d x))(e:touch ρ op=some b):mu b≠ .none:=by
 have j: ∀{x:Operand},(match ρ x with| .pointer (some a)=>some a.block|_=>none)=some b->mu b≠ .none:=by
  intro x f;have:=g x
  split at f
  next a i=>rw [i]at this;cases f;generalize d x=y at this;cases this;rename_i h;exact h.in
  next=>cases f
 have n: ∀{x:Operand},(match ρ x with| .map r=>r|_=>none)=some b->mu b≠ .none:=by
  intro x f;have:=g x
  split at f
  next r k=>rw [k]at this;subst f;generalize d x=y at this;cases this;rename_i h;exact h.in
  next=>cases f
 have o: ∀{x:Operand},(match ρ x with| .slice (some a) _ _=>some a.block|_=>none)=some b->mu b≠ .none:=by
  intro x f;have:=g x
  split at f
  next a l c i=>rw [i]at this;cases f;generalize d x=y at this;cases this;rename_i m h;exact m.in
  next=>cases f
 unfold touch at e;cases op<;>simp only []at e<;>(try (cases e;done))<;>(try exact j e)<;>(try exact n e)<;>(try exact o e)
 split at e
 next x p f=>
  have:=g x
  split at e
  next r k=>rw [k]at this;subst e;generalize d x=y at this;cases this;rename_i h;exact h.in
  next a l c i=>rw [i]at this;cases e;generalize d x=y at this;cases this;rename_i m h;exact m.in
  next=>cases e
 next=>cases e
section
variable{E:Env}{P:Program}(ok:EOk E P){R:Rec}(hc:iM E P R.call)(hcode:jW P R.code)
include ok hc hcode in
theorem rR(n:bg mu h w)(p:ni mu){tmps:Array Value}(j: ∀x,aw mu (ρ x) (dT tmps x)){F:FC}{dfs:List Deferred}{k:List Item}{cs:List Frame}
     (q:ops[i]? =some o) (r:Region.wanted o (yielded ops tmps)=true) {a:Bool}  (f:di E R ρ a o h=some (v,h')):
 ∃ c w' v',bg c h' w'/\Ext mu h w c h' w'/\aw c v v'/\(a=true-> ∀b,b<h.n->h'.get b=h.get b)/\
   Steps P (lone (F.mk' tmps dfs (.inRegion ops (i::rest)::k)) cs w) (lone (F.mk' (iA tmps o.dst v') dfs (.inRegion ops rest::k)) cs w'):=by
 cases a with
 | false=>
   simp only [di,cond_false]at f
   split at f
   next y l m=>
    cases f;obtain⟨c,w',s,d,v',t,u⟩:=uG ok hc hcode n p j (F:=F) (dfs:=dfs) (k:=k) (cs:=cs) (rest:=rest) q r m;grind
   next=>cases f
 | true=>
   simp only [di,cond_true]at f
   split at f
   next y l m=>
    cases g:Xm h.n l.lo with
    |false=>grind| true=>
      rw [g]at f;cases f;have hle:h.n<=l.lo:=Xi g;obtain⟨c,w',s,d,v',t,u⟩:=uG ok hc hcode (hrel_lo n h.n) p j (F:=F) (dfs:=dfs) (k:=k) (cs:=cs) (rest:=rest) q r m;have e: ∀b,b<h.n->l.get b=h.get b:=fun b g=>d.same b g (by omega);exact⟨c,w',v',hrel_lo s h.lo,⟨d.n,d.old,d.fresh,Xb _,fun b g _=>e b g,d.frame,d.ro,d.wsize,d.os,d.tape,d.output,d.cover⟩,t,fun _=>e,u⟩
   next=>cases f
theorem oW(t:Nat): ∀l:List Nat,oS t l=true↔t∈l
 | []=>by simp [oS]| x::l=>by simp_all[oS,Bool.or_eq_true,List.mem_cons,oW,zM,Nat.beq_refl]
theorem tN(t:Tmp): ∀l:List Operand,t∈tmpsOf l↔ .tmp t∈l
 | []=>by simp [tmpsOf]| x::l=>by cases x<;>simp [tmpsOf,tN t l]
theorem zw    {tmps:Array Value} (b:l.regs.Sized n) (c:tmps.size=n) (ts:List Tmp) (d: ∀t∈ts,∀v,l.regs.get t=some v-> ∃v',tmps[t]? =some v'/\aw mu v v')
 (e:ni mu) (x:Operand):aw mu (l.evD ts x) (dT tmps x):=by
 cases x with
 | tmp t=>
   simp only [Loc.evD];cases h:oS t ts with
   |false=>exact .poison _| true=>
     simp only [cond_true,Loc.ev,dT];cases i:l.regs.get t with
     | none=>
       have:n<=t:=by
        rcases Xj t n with a|a
        . obtain⟨v,j⟩:=Tr.get_some b a;grind
        . exact a
       rw [Xd,Xh (by omega)];exact .tuple rfl (by grind)
     | some v=>
       obtain⟨v',a,j⟩:=d t ((oW t ts).1 h) v i;simp_all
 | const v=>
   simp only [Loc.evD,Loc.ev,dT];cases hc:du v with
   |true=>simp only [cond_true];exact aw.const mu hc|false=>simp only [cond_false];exact .poison v
 | global g=>
   simp only [Loc.evD,Loc.ev,dT];cases k:Xl g 16 with
   |true=>simp only [cond_true];exact .ptr (e g (by simp_all))|false=>simp only [cond_false];exact .poison _
 |func f=>exact .fn rfl (by grind) rfl (by grind)
end
theorem cls_le(op:Op):cls E op<=5:=by unfold cls;grind
theorem zW(h:fJ op=true):cls E op=4:=by
 unfold fJ at h
 split at h
 . rfl
 . cases h
theorem qI(h:cls E op≠4)(ρ:Operand->Value)(a:Hp):jR ρ op a=touch ρ op:=by grind[jR,fJ,absurd,zW]
theorem lU(h:cls E op≠3):dN op=false:=by cases op<;>(try rfl);rename_i c;obtain⟨a,b⟩:=c;cases a<;>first|rfl|(exact absurd rfl h)
structure DT(E:Env)(R:Rec)(ops:Array Oper)(q:Nat)(ps:List (Nat×Nat))(M:List Nat)(L:Nat->Loc)(H:Nat->Hp)(T:Nat->Option Nat)(X:Nat->Bool):Prop where
 bef: ∀i,rE ops.toList M i
 four: ∀(n:Nat) o,ops[n]? =some o->cls E o.op=4->q.testBit n=true
 owe: ∀(n:Nat) o m (i:Nat) p,ops[n]? =some o->M[n]? =some m->i<n->ops[i]? =some p->m.testBit i=false->Owe E ops.toList o p i n q ps
 step: ∀(i:Nat) o,ops[i]? =some o->vZ E R ops.toList q i o (L i) (H i) (L (i+1)) (H (i+1)) (T i) (X i)
 pair: ∀{i j a b:Nat} {o p:Oper},(i,j)∈ps->ops[i]? =some o->ops[j]? =some p->dN o.op=false->dN p.op=false->T i=some a->T j=some b->a≠b
 leave: ∀{i j a:Nat} {o p:Oper},((i,j)∈ps\/(j,i)∈ps)->ops[i]? =some o->ops[j]? =some p->dN o.op=false->dN p.op=true->X j=true->fF E q j p.op=false->T i=some a->(H (j+1)).get a=(H j).get a
def isW(E:Env)(X:Nat->Bool)(q:Nat)(o:Oper)(i:Nat):Prop:=X i=true/\(cls E o.op=2\/((cls E o.op=3\/cls E o.op=5)/\q.testBit i=false))
def isQ(E:Env)(X:Nat->Bool)(q:Nat)(o:Oper)(i:Nat):Prop:=X i=true/\3<=cls E o.op/\q.testBit i=true
def isR(E:Env)(X:Nat->Bool)(o:Oper)(i:Nat):Prop:=X i=false\/cls E o.op<=1
def Down(ops:Array Oper)(S:Nat->Bool):Prop:= ∀i o,ops[i]? =some o->S i=true-> ∀e∈o.after.toList,binds e=true->S e.on=true
def Ready(o:Oper)(S:Nat->Bool):Prop:= ∀e∈o.after.toList,binds e=true->S e.on=true
section
variable{E:Env}{R:Rec}{ops:Array Oper}{q:Nat}{ps:List (Nat×Nat)}{M:List Nat}{L:Nat->Loc}{H:Nat->Hp}{T:Nat->Option Nat}{X:Nat->Bool}(D:DT E R ops q ps M L H T X)
include D
theorem kinds(c:ops[i]? =some o):isR E X o i\/isQ E X q o i\/isW E X q o i:=by
 cases a:X i with
 |false=>exact .inl (.inl a)| true=>
   have f:=cls_le (E:=E) o.op;rcases Xj (cls E o.op) 2 with h|h
   . exact .inl (.inr (by omega))
   . by_cases d:cls E o.op=2
     . exact .inr (.inr ⟨a,.inl d⟩)
     . cases b:q.testBit i with
       |true=>exact .inr (.inl ⟨a,by omega,b⟩)| false=>have g:cls E o.op≠4:=(by intro e;have:=D.four i o c e;grind);exact .inr (.inr ⟨a,.inr ⟨by omega,b⟩⟩)
theorem pk(c:Down ops S): ∀(n:Nat) (o:Oper) (m i:Nat),ops[n]? =some o->M[n]? =some m->S n=true->m.testBit i=true->S i=true:=by
 intro n
 induction n using Nat.strongRecOn with
 | _ n p=>
   intro o m i d f g h;obtain⟨r,b,s,j⟩:=D.bef n o (by grind);rw [f]at b;cases b;obtain⟨e,k,a,x⟩:=j i h;have l:=c n o d g e k a;grind
theorem pY(h:Down ops S)(j:ops[n]? =some o)(k:M[n]? =some m)(l:Ready o S)(p:m.testBit i=true):S i=true:=by
 obtain⟨t,f,r,s⟩:=D.bef n o (by grind);rw [k]at f;cases f;obtain⟨e,g,a,x⟩:=s i p;have b:=l e g a;rcases x with rfl|⟨m2,c,d⟩
 . exact b
 . have hlt:=r e g a;have u:n<ops.size:=(Array.getElem?_eq_some_iff.1 j).1;exact pk D h e.on ops[e.on] m2 i (Xg (by omega)) c b d
theorem mask(a:ops[n]? =some o): ∃m,M[n]? =some m:=by obtain⟨b,c,_⟩:=D.bef n o (by grind);grind
theorem cmpN(w:ops[n]? =some o)(z:M[n]? =some m)(A:i<n)(B:ops[i]? =some p)
 (h:(isW E X q p i/\(isW E X q o n\/isQ E X q o n))\/(isQ E X q p i/\isW E X q o n/\fJ p.op=false)):m.testBit i=true\/(isQ E X q p i/\cls E o.op=2/\qg ops.toList o n i=true):=by
 cases C:m.testBit i with
 |true=>exact .inl rfl| false=>
   by_cases r:isQ E X q p i/\cls E o.op=2/\qg ops.toList o n i=true
   . exact .inr r
   exfalso;obtain⟨_,v⟩:=D.owe n o m i p w z A B C;have k: ∀{x y:Oper} {a b:Nat},isW E X q x a->(isW E X q y b\/isQ E X q y b)->cls E x.op≠0/\cls E x.op≠1/\cls E y.op≠0/\cls E y.op≠1:=(by intro x y a b g s;obtain⟨_,g⟩:=g;rcases s with⟨_,s⟩|⟨_,s,_⟩<;>(omega));rcases h with⟨j,l⟩|⟨j,l,F⟩
   . obtain⟨t,e,u,f⟩:=k j l;rcases v with h|h|⟨h,_⟩|⟨_,h,_⟩|⟨h,_⟩|⟨_,h,_⟩|⟨h,_⟩|⟨a,b,c,d⟩|⟨_,h,_⟩|⟨h,_⟩|⟨G,e4,_,e5,_⟩|⟨I,J,e8,e9⟩
     . exact u h
     . exact t h
     . exact f h
     . exact e h
     . exact f h
     . exact e h
     . exact f h
     . obtain⟨_,g⟩:=j;grind
     . exact e h
     . exact f h
     . obtain⟨_,g⟩:=j;omega
     . obtain⟨_,g⟩:=j;grind
   . obtain⟨t,e,u,f⟩:=k l (.inr j);rcases v with h|h|⟨h,_⟩|⟨_,h,_⟩|⟨h,_⟩|⟨_,h,_⟩|⟨h,_⟩|⟨a,b,c,d⟩|⟨_,h,_⟩|⟨h,_⟩|⟨G,e4,_,e5,_⟩|⟨I,J,e8,e9⟩
     . exact t h
     . exact u h
     . exact e h
     . exact f h
     . exact e h
     . exact f h
     . exact e h
     . obtain⟨_,g⟩:=l;grind
     . exact f h
     . exact e h
     . grind
     grind
theorem cmp(a:ops[n]? =some o)(b:M[n]? =some m)(c:i<n)(d:ops[i]? =some p)
 (h:isW E X q p i/\(isW E X q o n\/isQ E X q o n)):m.testBit i=true:=by
 rcases cmpN D a b c d (.inl h)with x|⟨x,_⟩
 . exact x
 . exfalso;have e:=h.1.2;have f:=x.2.2;rcases e with y|⟨_,y⟩
   . have:=x.2.1;omega
   grind
theorem xQ(j:Down ops S)(c:ops[n]? =some o)(k:Ready o S)(s:S n=false){t:Tmp}(u:t∈lG ops.toList o):
 ∀(p:Nat) (op:Oper),ops[p]? =some op->op.dst=some t->(p<n↔S p=true):=by
 intro p op b a;obtain⟨m,g⟩:=mask D c;obtain⟨i,e⟩:=mask D b;have l:t∈lG ops.toList op:=by unfold lG;rw [a];simp
 rcases Nat.lt_trichotomy p n with h|h|h
 . refine⟨fun _=>?_,fun _=>h⟩;cases d:m.testBit p with
   |true=>exact pY D j c g k d| false=>
     exfalso;obtain⟨f,_⟩:=D.owe n o m p op c g h b d;simp only [ul,a,zO,Xk]at f;grind[oW]
 . grind
 . refine⟨fun r=>absurd r (by omega),fun v=>?_⟩;exfalso;cases d:i.testBit n with
   |true=>grind[pk]| false=>
     obtain⟨f,_⟩:=D.owe p op i n o b e h c d;simp only [ul,a,zO,Xk]at f;grind[oW]
end
section
variable{E:Env}{P:Program}(ok:EOk E P){R:Rec}(hc:iM E P R.call)(hcode:jW P R.code)
variable{ops:Array Oper}{q:Nat}{ps:List (Nat×Nat)}{M:List Nat}{L:Nat->Loc}{H:Nat->Hp}{T:Nat->Option Nat}{X:Nat->Bool}(D:DT E R ops q ps M L H T X)
def qZ(n:Nat)(mu0:Mu)(d:World)(L:Nat->Loc)(H:Nat->Hp)(i:Nat):Prop:=
 ∃a c b,bg a (H i) c/\ni a/\jZ a (L i).regs n b/\Ext mu0 (H 0) d a (H i) c
structure Turn(ops:Array Oper)(E:Env)(X:Nat->Bool)(q:Nat)(H:Nat->Hp)(T:Nat->Option Nat)(i:Nat)(o:Oper):Prop where
 n:(H i).n<=(H (i+1)).n
 quiet:isQ E X q o i-> ∀b,b<(H i).n->(H (i+1)).get b=(H i).get b
 still:isR E X o i->H (i+1)=H i
theorem Ec{R:Rec}(c:cls E o.op<=1){a:Bool}(hq:a=false)(b:di E R ρ a o h=some (v,h')):h'=h:=by
 subst hq;obtain⟨f,d,_,_⟩:=wY (E:=E) (op:=o.op) (ρ:=ρ) (by omega);simp only [di,cond_false]at b;rw [d h]at b;cases hf:f h with
 |none=>rw [hf]at b;cases b
 |some u=>rw [hf]at b;cases b;rfl
theorem uP(a:cls E op<=1):fF E q i op=false:=by grind[fF,Xm,cls,Xi]
theorem qE(a:3<=cls E op)(b:q.testBit i=true):fF E q i op=true:=by unfold fF;simp_all
include ok hc hcode D in
theorem shadow{n:Nat}{mu0:Mu}{m:World}: ∀(i:Nat),i<=ops.size->qZ n mu0 m L H 0->qZ n mu0 m L H i/\(∀j o,j<i->ops[j]? =some o->Turn ops E X q H T j o)
 |0,_,h0=>⟨h0,fun j o J=>absurd J (by omega)⟩
 | i + 1,V,h0=>by
   obtain⟨⟨p,K,a,A,g,c,N⟩,W⟩:=shadow i (by omega) h0;have B:ops[i]? =some ops[i]:=Xg (by omega);have e:=D.step i ops[i] B
   suffices Y:qZ n mu0 m L H (i+1)/\Turn ops E X q H T i ops[i] by grind
   generalize C:L (i+1)=Z at e;generalize r:H (i+1)=H1 at e;generalize hT:T i=T1 at e;generalize hX:X i=X1 at e;cases e with
   | skip G=>
     refine⟨⟨p,K,iA a ops[i].dst undef,by grind,g,?_,by grind⟩,⟨by grind,(fun⟨h,_⟩=>by grind),fun _=>r⟩⟩;rw [C];have:=vI c ops[i].dst (v:=.tuple #[]) (v':=undef) (.tuple rfl (by grind));cases f:ops[i].dst with
     |none=>rw [f]at this;exact this|some d=>rw [f]at this;exact this
   | exec G s=>
     rename_i v;have O:=zI c G;have u:=fun x=>zw (l:=L i) c.sized c.size (tmpsOf ops[i].op.operands.toList) (fun t _ v Q=>c.get t v Q) g x;obtain⟨w,S,v',k1,y,U,k4,_⟩:=rR ok hc hcode A g u (F:=⟨0,.normal,none⟩) (dfs:=[]) (k:=[]) (cs:=[]) (rest:=[]) B O s;have I:=y.le A;refine⟨⟨w,S,iA a ops[i].dst v',by grind,g.mono I,?_,by rw [r];exact Ext.trans N y⟩,⟨by rw [r];exact y.n,?_,?_⟩⟩
     . rw [C];have:=vI (c.mono I) ops[i].dst U;cases f:ops[i].dst with
       |none=>rw [f]at this;exact this|some d=>rw [f]at this;exact this
     . intro⟨_,h3,hb⟩ b hb';grind[qE]
     . intro z;rcases z with z|z
       . grind
       grind[Ec,uP]
end
theorem w_plain{k:Hp}{nx:dM}(g:cls E op=2\/cls E op=5)(d:aop E ρ h op=some (nx,k)):(∃v,nx=.val v)\/nx=.skip:=by
 have l: ∀{r:Option (Hp×Value)},dD r=some (nx,k)->(∃v,nx=.val v)\/nx=.skip:=by
  intro r i;cases r with
  |none=>cases i
  |some q=>obtain⟨a,b⟩:=q;cases i;exact .inl ⟨b,rfl⟩
 have j: ∀{r:Option Hp},fU r=some (nx,k)->(∃v,nx=.val v)\/nx=.skip:=by
  intro r i;cases r with
  |none=>cases i
  |some q=>cases i;exact .inr rfl
 cases op
 case store=>exact j d
 case mapUpdate=>exact j d
 case insert=>exact j d
 case mapEntry=>exact l d
 case entryStore=>exact j d
 case call c=>
  cases e:c.callee with
  |value f=>simp [cls,e]at g|invoke r n=>simp [cls,e]at g| builtin m=>
    cases m<;>(try (simp [cls,e]at g;done))
    case append=>
     simp only [aop,e]at d
     split at d
     next=>exact l d
     next=>cases d
    case copy=>
     simp only [aop,e]at d
     split at d
     next=>exact l d
     next=>cases d
    case delete=>
     simp only [aop,e]at d
     split at d
     next=>
      split at d
      next=>cases d
      next=>cases d;exact .inl ⟨_,rfl⟩
     next=>cases d
 case convert o p x=>
  exfalso;unfold cls at g;simp only []at g
  split at g<;>omega
 all_goals first
  |(exfalso;simp [cls]at g;done)
  |(exfalso;unfold cls at g;simp only []at g;split at g<;>simp at g;done)
theorem zk{R:Rec}(b:cls E o.op=2\/cls E o.op=5)(a:di E R ρ false o h=some (v,h')): ∃nx,aop E ρ h o.op=some (nx,h'):=by
 simp only [di,cond_false]at a;cases c:aop E ρ h o.op with
 |none=>rw [c]at a;cases a
 | some p=>
   obtain⟨nx,d⟩:=p;rw [c]at a;rcases w_plain b c with⟨u,rfl⟩|rfl
   . cases a;exact⟨_,rfl⟩
   . cases a;exact⟨_,rfl⟩
theorem zJ{a b:Option Value}(e:cV h a=cV h b):a=b:=by cases a<;>cases b<;>simp [cV]at e⊢;exact e
section
variable{E:Env}{R:Rec}{ops:Array Oper}{q:Nat}{ps:List (Nat×Nat)}{M:List Nat}{L:Nat->Loc}{H:Nat->Hp}{T:Nat->Option Nat}{X:Nat->Bool}(D:DT E R ops q ps M L H T X)
theorem um(a:isW E X q o i):fF E q i o.op=false:=by
 unfold fF;rcases a.2 with h|⟨_,h⟩
 . rw [h,show Xm 3 2=false from rfl];simp
 . rw [h];simp
theorem fm (dz: ∀j o,j<ops.size->ops[j]? =some o->Turn ops E X q H T j o) {j:Nat} (a:i<=j) (c:j<=ops.size):(H i).n<=(H j).n:=by
 induction j with
 | zero => have:i=0:=by omega
           subst this;exact Xb _
 | succ j b=>
   by_cases e:i=j+1
   . subst e;exact Xb _
   . exact Xp (b (by omega) (by omega)) (dz j ops[j] (by omega) (Xg (by omega))).n
theorem walk_eq{c:Type}(b:Nat->c){a:Nat}: ∀(d:Nat),(∀j,a<=j->j<a+d->b (j+1)=b j)->b (a+d)=b a
 |0,_=>rfl| d+1,h=>by have e:=h (a+d) (by omega) (by omega);have f:=walk_eq b d (fun j g i=>h j g (by omega));rw [<-f,<-e];rfl
include D in
theorem w_leaves(u: ∀j,j<=ops.size->(H j).t.Sized (H j).n){p j:Nat}{s:Oper}(K:ops[p]? =some o)(r:ops[j]? =some s)(N:isW E X q s j)(Y:cls E o.op<=1)(Q:T p=touch ρ o.op)
 (z:(p<j/\Owe E ops.toList s o p j q ps)\/(j<p/\Owe E ops.toList o s j p q ps)) (hlt: ∀b,touch ρ o.op=some b->b<(H j).n)
 {f:Hp->Option Value} (f1: ∀h,aop E ρ h o.op=cV h (f h)) (f2:cls E o.op=0-> ∀h O,f h=f O) (Z: ∀h O,(∀b,touch ρ o.op=some b->O.get b=h.get b)->f h=f O):
 f (H (j+1))=f (H j):=by
 have hp:=(Array.getElem?_eq_some_iff.1 K).1;have ad:=(Array.getElem?_eq_some_iff.1 r).1;by_cases h0:cls E o.op=0
 . exact f2 h0 _ _
 have h1:cls E o.op=1:=by omega
 -- what the writer's step is
 have A:=D.step j s r;generalize hL:L (j+1)=L1 at A;generalize hH:H (j+1)=S at A;generalize B:T j=T1 at A;generalize hX:X j=X1 at A;cases A with
 |skip hg=>exact absurd N.1 (by rw [hX];simp)| exec hg v=>
   rw [um N]at v;have g:((p,j)∈ps\/(j,p)∈ps)->(cls E s.op=2\/cls E s.op=5)->f S=f (H j):=by
    intro w C;obtain⟨nx,P⟩:=zk C v;refine(Z _ _ fun b F=>?_).symm;refine w_only (u j (by omega)) C P b (hlt b F) ?_;intro e;rcases w with w|w
    . exact D.pair w K r (lU (E:=E) (by omega)) (lU (E:=E) (by omega)) (Q.trans F) ((B.trans (qI (E:=E) (by omega) _ _)).trans e) rfl
    . exact D.pair w r K (lU (E:=E) (by omega)) (lU (E:=E) (by omega)) ((B.trans (qI (E:=E) (by omega) _ _)).trans e) (Q.trans F) rfl
   have n:((p,j)∈ps\/(j,p)∈ps)->dN s.op=true->f S=f (H j):=(by intro w x;refine(Z _ _ fun b F=>?_).symm;rw [<-hH];exact D.leave w K r (lU (E:=E) (by omega)) x hX (um N) (Q.trans F));have l:qP s.op o.op=true->f S=f (H j):=by
    intro hle;unfold qP at hle
    split at hle
    next t m k t' m' k' U e1 e2=>
     simp only [zO,Xk]at hle;have V:t=t':=zM hle.2;have W:U=false:=hle.1;subst V;subst W;obtain⟨nx,P⟩:=zk (.inl (by rw [e1];rfl)) v;have hf: ∀h,f h=dw E h t (ρ m') (ρ k') false:=(by intro h;have:=f1 h;rw [e2]at this;exact zJ this.symm);rw [e1]at P;rw [hf,hf];exact look_ent P _ _
    next=>cases hle
   have G:=N.2;rcases z with⟨I,z⟩|⟨I,z⟩
   . rcases z.2 with h|h|⟨h,_⟩|⟨h,_,i⟩|⟨h,_⟩|⟨h,_,i⟩|⟨h,_⟩|⟨a,b,c,d⟩|⟨_,_,x,i⟩|⟨h,_,x,i⟩|⟨_,h,_⟩|⟨_,h,_⟩
     . omega
     . omega
     . omega
     . rcases i with i|i
       . exact l i
       . exact g (.inl i) (.inl h)
     . omega
     . exact g (.inl i) (.inr h)
     . omega
     . rcases G with y|⟨y,J⟩
       . exact absurd y a
       . rw [d y]at J;cases J
     . exact n (.inl i) x
     . omega
     . omega
     . omega
   . rcases z.2 with h|h|⟨_,h⟩|⟨h,_⟩|⟨_,h,i⟩|⟨h,_⟩|⟨_,h,i⟩|⟨a,b,c,d⟩|⟨_,h,x,i⟩|⟨_,_,x,i⟩|⟨h,_⟩|⟨h,_⟩
     . omega
     . omega
     . omega
     . omega
     . rcases i with i|i
       . exact l i
       . exact g (.inr i) (.inl h)
     . omega
     . exact g (.inr i) (.inr h)
     . rcases G with y|⟨y,J⟩
       . exact absurd y b
       . rw [c y]at J;cases J
     . omega
     . exact n (.inr i) x
     . omega
     . omega
end
structure WExt(mu0:Mu)(h0:Hp)(w0:World)(mu:Mu)(w:World):Prop where
 old: ∀b,b<h0.n->mu b=mu0 b\/(mu0 b≠ .none/\mu b=.dead)
 fresh: ∀b c base top,h0.n<=b->mu b=.blk c base top->w0.heap.size<=c\/ ∃b0 base0 top0,b0<h0.n/\mu0 b0=.blk c base0 top0/\mu b0=.dead
 frame: ∀c,c<w0.heap.size->(∀b base top,mu0 b≠ .blk c base top)->w.heap[c]? =w0.heap[c]?
 ro: ∀b c base top t sz el,mu0 b=.blk c base top->h0.get b=some (.cells t sz el 0)->w.heap[c]? =w0.heap[c]? /\mu b=mu0 b
 wsize:w0.heap.size<=w.heap.size
 os:w.os=w0.os
 tape:w.tape=w0.tape
 output:w.output=w0.output
theorem WExt.refl(d:bg mu h w):WExt mu h w mu w:=
 ⟨fun _ _=>.inl rfl,fun b c a e f g=>absurd (d.lt b (by grind)) (by omega),fun _ _ _=>rfl,fun _ _ _ _ _ _ _ _ _=>⟨rfl,rfl⟩,Xb _,rfl,rfl,rfl⟩
theorem WExt.step{mu0 m i:Mu}{h0 k v:Hp}{r:World}(W:WExt mu0 h0 r mu w)(A: ∀b,mu0 b≠ .none->b<h0.n)(S:h0.n<=k.n)(e:Ext (cut mu k.n) k w m v w')
 (B: ∀b c base top t q el,mu0 b=.blk c base top->h0.get b=some (.cells t q el 0)->k.get b=some (.cells t q el 0)) (n: ∀b,b<v.n->i b=m b) (N: ∀b,v.n<=b->i b=mu b):WExt mu0 h0 r i w':=by
 have T:=e.n;have C: ∀g,g<h0.n->mu g=.dead->i g=.dead:=by
  intro g s O;rw [n g (by omega)];rcases e.old g (by omega)with x|⟨_,x⟩
  . rw [x,fD (by omega)];exact O
  . exact x
 have D: ∀c,c<r.heap.size->(∀b base top,mu0 b≠ .blk c base top)-> ∀b base top,cut mu k.n b≠ .blk c base top:=by
  intro c E o b base top j;by_cases p:b<k.n
  . rw [fD p]at j;by_cases s:b<h0.n
    . rcases W.old b s with x|⟨_,x⟩
      . grind
      grind
    . rcases W.fresh b c base top (by omega) j with x|⟨g,a,d,_,x,_⟩
      . omega
      grind
  grind[qc]
 refine⟨?_,?_,?_,?_,Xp W.wsize e.wsize,e.os.trans W.os,e.tape.trans W.tape,e.output.trans W.output⟩
 . intro b p;rw [n b (by omega)];rcases e.old b (by omega)with x|⟨x,y⟩
   . rw [x,fD (by omega)];exact W.old b p
   . rw [fD (by omega)]at x;rcases W.old b p with z|⟨z,_⟩
     . grind
     grind
 . intro b c base top p j;have P: ∀l f h,mu l=.blk c f h->l<k.n->m l=.dead->r.heap.size<=c\/ ∃g a d,g<h0.n/\mu0 g=.blk c a d/\i g=.dead:=by
    intro l f h Q U V;by_cases F:l<h0.n
    . rcases W.old l F with x|⟨_,x⟩
      . grind
      grind
    . rcases W.fresh l c f h (by omega) Q with x|⟨g,a,d,I,J,K⟩
      . exact .inl x
      grind
   have L:mu b=.blk c base top->r.heap.size<=c\/ ∃g a d,g<h0.n/\mu0 g=.blk c a d/\i g=.dead:=by
    intro G;rcases W.fresh b c base top p G with x|⟨g,a,d,I,J,K⟩
    . exact .inl x
    grind
   by_cases H:b<v.n
   . rw [n b H]at j;by_cases u:b<k.n
     . rcases e.old b u with x|⟨_,x⟩
       . rw [x,fD u]at j;grind
       grind
     . rcases e.fresh b c base top (by omega) j with x|⟨l,f,h,I,J,K⟩
       . exact .inl (Xp W.wsize x)
       grind[fD]
   grind
 . intro c E o;rw [<-W.frame c E o];exact e.frame c (by have:=W.wsize;omega) (D c E o)
 . intro b c base top t q el j M;have p:=A b (by grind);obtain⟨X,R⟩:=W.ro b c base top t q el j M;obtain⟨Y,_,Z⟩:=e.ro b c base top t q el (by rw [fD (by omega),R];exact j) (B b c base top t q el j M);grind[fD]
end Go.Ab

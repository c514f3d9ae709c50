/- Nets, cells, flags: what the functions do (part 3). -/
import Derived.Test.YtfdopodkngggfaaGreatDoorNetB
open Go.Ab.Tryz renaming abEnv->zM,u33->Xp,s3->Xu,u182->Xv,s187->Xw,u24->XB,u3->XK,e64->XL,s2->XU,e3E->XW
open List renaming getD_eq_getElem?_getD->zN,replicate->zO,range->zQ,flatMap_eq_foldl->zR,getElem?_eq_getElem->zS,mem_append_left->zV,mem_append_right->zW,getElem?_eq_none->zX,length_append->zZ,length_map->Xa,mem_cons_of_mem->Xb,map_eq_flatMap->Xc,take->Xe,drop->Xf,take_append_of_le_length->Xg,drop_zero->Xh,getElem_mem->Xi,length_range->Xm,take_of_length_le->Xo,take_succ_eq_append_getElem->Xq,length_singleton->Xr,length_set->Xs,ext_getElem?->Xx,getElem?_map->Xy,flatMap_cons->Xz,getElem?_append_left->XA,append_nil->XI,all_cons->XM,map_cons->XN,take_replicate->XO,replicate_zero->XP,map_congr_left->XQ,all_nil->XS,map_map->XT
open Nat renaming le_trans->zP,lt_of_succ_le->zY,mul_le_mul_right->Xk,mul_one->Xl,le_refl->Xn,le_total->XC,zero_mul->XE,zero_add->XF,le_mul_of_pos_right->XH,one_mul->XJ,succ_mul->XR,zero_le->XV
open Int renaming toNat_natCast->zT,cast_ofNat_Int->zU,eq_ofNat_of_zero_le->XG
open Bool renaming and_true->Xd
open Option renaming getD_some->Xj,map_some->Xt,getD_none->XD
set_option maxHeartbeats 4000000
set_option linter.defProp false
set_option linter.unusedVariables false
set_option linter.unusedSimpArgs false
section
namespace Go.Ab
structure Ev where
 kind:Nat
 id:Nat
 lab:Nat
def encE(e:Ev):List Value:=[.int .i64 e.kind,.int .i64 0,.int .i64 e.id,.int .i64 e.lab]
structure SS where
 K:Nat->Option Int
 L:Nat->Nat
 P:Nat->List Nat
 O:List Nat
 ev:List Ev
structure Fd where
 dist:Nat
 arcs:List Nat
 ev:List Ev
def iA(K:Nat->Option Int)(v:Nat)(k:Int):Prop:=K v=some k/\ ∀u k',K u=some k'->k<k'\/(k=k'/\v<=u)
theorem iA.uniq{K:Nat->Option Int}{v u:Nat}{k k':Int}(h:iA K v k)(g:iA K u k'):v=u/\k=k':=by
 have a:=h.2 _ _ g.1
 have b:=g.2 _ _ h.1
 omega
def updP(P:Nat->List Nat)(v:Nat)(l:List Nat):Nat->List Nat:=fun u=>if u=v then l else P u
def oS(pi:Nat->Int)(σ:SS)(v lab:Nat)(p:List Nat):SS:=
 if v∈σ.O\/(FAR:Int)<=pi v\/((σ.K v).isSome=true/\σ.L v<=lab)then σ else⟨bZ σ.K v (some (lab+pi v)),dU σ.L v lab,updP σ.P v p,σ.O,σ.ev⟩
def iw(σ:SS)(v:Nat):SS:=⟨bZ σ.K v none,σ.L,σ.P,σ.O++[v],σ.ev++[⟨0,v,σ.L v⟩]⟩
def evS(σ:SS)(e:Ev):SS:=⟨σ.K,σ.L,σ.P,σ.O,σ.ev++[e]⟩
def scan1(A:List Arc)(al:Nat->Bool)(pi:Nat->Int)(v:Nat)(σ:SS)(a:Nat):SS:=
 if al a=true then oS pi (evS σ ⟨1,a,0⟩) (A.getD a default).t (σ.L v+(A.getD a default).w) (a::σ.P v)else σ
def scanS(A:List Arc)(al:Nat->Bool)(pi:Nat->Int)(v:Nat)(σ:SS):SS:=(outs A Arc.s A.length v).foldl (scan1 A al pi v) σ
inductive Ends(A:List Arc)(al:Nat->Bool)(pi:Nat->Int)(to:Nat):SS->Fd->Prop where
 |none {σ:SS}:(∀v,σ.K v=none)->Ends A al pi to σ ⟨FAR,[],σ.ev⟩
 |hit {σ:SS} {k:Int}:iA σ.K to k->Ends A al pi to σ ⟨σ.L to,(σ.P to).reverse,(iw σ to).ev⟩
 |step {σ:SS} {v:Nat} {k:Int} {r:Fd}:iA σ.K v k->v≠to->Ends A al pi to (scanS A al pi v (iw σ v)) r->Ends A al pi to σ r
theorem Ends.uniq{A:List Arc}{al:Nat->Bool}{pi:Nat->Int}{to:Nat}{σ:SS}{r q:Fd}(h:Ends A al pi to σ r)(g:Ends A al pi to σ q):r=q:=by
 induction h with
 | none hn=>
   cases g with
   |none _=>rfl
   |hit hp=>have:=hp.1;rw [hn]at this;cases this
   |step hp _ _=>have:=hp.1;rw [hn]at this;cases this
 | hit hp=>
   cases g with
   |none hn=>have:=hp.1;rw [hn]at this;cases this
   |hit _=>rfl
   |step hq hne _=>exact absurd (hq.uniq hp).1 hne
 | step hp hne _ ih=>
   cases g with
   |none hn=>have:=hp.1;rw [hn]at this;cases this
   |hit hq=>exact absurd (hp.uniq hq).1 hne
   | step hq _ hg=>
     obtain⟨rfl,_⟩:=hp.uniq hq
     exact ih hg
section
variable{A:List Arc}{N s:Nat}{al:Nat->Bool}{pi:Nat->Int}{σ:SS}
structure Sv(A:List Arc)(N s:Nat)(al:Nat->Bool)(pi:Nat->Int)(σ:SS):Prop where
 nd:σ.O.Nodup
 lt: ∀v∈σ.O,v<N
 op: ∀v k,σ.K v=some k->v<N/\v∉σ.O/\pi v<(FAR:Int)/\k=σ.L v+pi v
 bd: ∀v,σ.L v<=σ.O.length*bz/\(σ.P v).length<=σ.O.length
 pc: ∀v∈σ.O,pi v<(FAR:Int)
 path: ∀v,(v∈σ.O\/σ.K v≠none)->(v=s/\σ.P v=[]/\σ.L v=0)\/ ∃a,a<A.length/\al a=true/\(A.getD a default).t=v/\(A.getD a default).s∈σ.O/\σ.P v=a::σ.P (A.getD a default).s/\σ.L v=σ.L (A.getD a default).s+(A.getD a default).w
theorem Sv.len(h:Sv A N s al pi σ):σ.O.length<=N:=nu N σ.O h.nd h.lt
theorem Sv.evS(h:Sv A N s al pi σ)(e:Ev):Sv A N s al pi (evS σ e):=⟨h.nd,h.lt,h.op,h.bd,h.pc,h.path⟩
structure kJ(σ τ:SS):Prop where
 O:τ.O=σ.O
 L: ∀u∈σ.O,τ.L u=σ.L u
 P: ∀u∈σ.O,τ.P u=σ.P u
theorem kJ.refl:kJ σ σ:=⟨rfl,fun _ _=>rfl,fun _ _=>rfl⟩
theorem kJ.trans{τ υ:SS}(h:kJ σ τ)(g:kJ τ υ):kJ σ υ:=
 ⟨g.O.trans h.O,fun u hu=>(g.L u (by rw [h.O];exact hu)).trans (h.L u hu),fun u hu=>(g.P u (by rw [h.O];exact hu)).trans (h.P u hu)⟩
theorem Sv.reach(h:Sv A N s al pi σ){a lab v:Nat}{p:List Nat}(ha:a<A.length)(hal:al a=true)(ht:(A.getD a default).t=v)(hN:v<N)(hs:(A.getD a default).s∈σ.O)(hl:lab=σ.L (A.getD a default).s+(A.getD a default).w)(hp:p=a::σ.P (A.getD a default).s)
 (b1:lab<=σ.O.length*bz) (b2:p.length<=σ.O.length):Sv A N s al pi (oS pi σ v lab p)/\kJ σ (oS pi σ v lab p):=by
 unfold oS
 split
 . exact⟨h,.refl⟩
 . rename_i hc
   simp only [not_or]at hc
   obtain⟨c1,c2,c3⟩:=hc
   have q: ∀u∈σ.O,u≠v:=fun u hu e=>c1 (by subst e;exact hu)
   refine⟨⟨h.nd,h.lt,fun u k hk=>?_,fun u=>⟨?_,?_⟩,h.pc,fun u hu=>?_⟩,⟨rfl,fun u hu=>by simp [dU,q u hu],fun u hu=>by simp [updP,q u hu]⟩⟩
   . simp only [bZ,dU]at hk⊢
     split at hk
     . rename_i e;subst e;cases hk
       exact⟨hN,c1,by omega,by simp⟩
     . rename_i e
       rw [if_neg e];exact h.op u k hk
   . simp only [dU];split
     . exact b1
     . exact(h.bd u).1
   . simp only [updP];split
     . exact b2
     . exact(h.bd u).2
   . have e1:dU σ.L v lab (A.getD a default).s=σ.L (A.getD a default).s:=if_neg (q _ hs)
     have e2:updP σ.P v p (A.getD a default).s=σ.P (A.getD a default).s:=if_neg (q _ hs)
     by_cases e:u=v
     . subst e
       refine .inr ⟨a,ha,hal,ht,hs,?_,?_⟩
       . show updP σ.P u p u=a::updP σ.P u p (A.getD a default).s
         rw [e2,<-hp];exact if_pos rfl
       . show dU σ.L u lab u=dU σ.L u lab (A.getD a default).s+(A.getD a default).w
         rw [e1,<-hl];exact if_pos rfl
     . have hu':u∈σ.O\/σ.K u≠none:=by simpa [bZ,e]using hu
       rcases h.path u hu' with⟨k1,k2,k3⟩|⟨b,k1,k2,k3,k4,k5,k6⟩
       . exact .inl ⟨k1,by simp [updP,e,k2],by simp [dU,e,k3]⟩
       . refine .inr ⟨b,k1,k2,k3,k4,?_,?_⟩
         . simp only [updP,if_neg e,if_neg (q _ k4)];exact k5
         . simp only [dU,if_neg e,if_neg (q _ k4)];exact k6
theorem Sv.close(h:Sv A N s al pi σ){v:Nat}{k:Int}(hk:σ.K v=some k):Sv A N s al pi (iw σ v):=by
 obtain⟨o1,o2,o3,o4⟩:=h.op v k hk
 have hl:(σ.O++[v]).length*bz=σ.O.length*bz+bz:=by rw [zZ,Xr,XR]
 refine⟨?_,fun u hu=>?_,fun u k' hu=>?_,fun u=>⟨?_,?_⟩,fun u hu=>?_,fun u hu=>?_⟩
 . show(σ.O++[v]).Nodup
   rw [List.nodup_append]
   exact⟨h.nd,by simp,fun a ha b hb e=>o2 (by simp at hb;subst hb;subst e;exact ha)⟩
 . rcases List.mem_append.1 hu with hu|hu
   . exact h.lt u hu
   . simp at hu;subst hu;exact o1
 . simp only [iw,bZ]at hu⊢
   split at hu
   . cases hu
   . rename_i e
     obtain⟨a,b,c,d⟩:=h.op u k' hu
     exact⟨a,by simp [b,e],c,d⟩
 . show σ.L u<=(σ.O++[v]).length*bz
   rw [hl];have:=(h.bd u).1;omega
 . show(σ.P u).length<=(σ.O++[v]).length
   have:=(h.bd u).2;simp;omega
 . rcases List.mem_append.1 hu with hu|hu
   . exact h.pc u hu
   . simp at hu;subst hu;exact o3
 . have hu':u∈σ.O\/σ.K u≠none:=by
    by_cases e:u=v
    . subst e;exact .inr (by rw [hk];nofun)
    . simpa [iw,bZ,e]using hu
   rcases h.path u hu' with hq|⟨b,k1,k2,k3,k4,k5,k6⟩
   . exact .inl hq
   . exact .inr ⟨b,k1,k2,k3,zV _ k4,k5,k6⟩
def Room(σ:SS)(v:Nat):Prop:=v∈σ.O/\σ.L v+bz<=σ.O.length*bz/\(σ.P v).length+1<=σ.O.length
theorem Room.keeps{τ:SS}{v:Nat}(r:Room σ v)(k:kJ σ τ):Room τ v:=by
 obtain⟨a,b,c⟩:=r
 exact⟨by rw [k.O];exact a,by rw [k.O,k.L v a];exact b,by rw [k.O,k.P v a];exact c⟩
theorem Sv.room(h:Sv A N s al pi σ)(v:Nat):Room (iw σ v) v:=by
 have:=h.bd v
 refine⟨zW _ (by simp),?_,?_⟩
 . show σ.L v+bz<=(σ.O++[v]).length*bz
   rw [zZ,Xr,XR];omega
 . show(σ.P v).length+1<=(σ.O++[v]).length
   simp;omega
theorem Sv.scan1(h:Sv A N s al pi σ)(hA: ∀a∈A,a.t<N/\a.w<=bz){v a:Nat}(r:Room σ v)(ha:a<A.length)(hv:(A.getD a default).s=v):Sv A N s al pi (scan1 A al pi v σ a)/\kJ σ (scan1 A al pi v σ a):=by
 unfold Ab.scan1
 split
 . rename_i hal
   obtain⟨r1,r2,r3⟩:=r
   have ok:=hA (A.getD a default) (by rw [zN,zS ha];exact Xi ha)
   subst hv
   obtain⟨h1,h2⟩:=(h.evS ⟨1,a,0⟩).reach (p:=a::σ.P (A.getD a default).s) (lab:=σ.L (A.getD a default).s+(A.getD a default).w) ha hal rfl ok.1 r1 rfl rfl (by show _<=σ.O.length*bz;omega) (by show(σ.P _).length+1<=σ.O.length;exact r3)
   exact⟨h1,⟨h2.O,h2.L,h2.P⟩⟩
 . exact⟨h,.refl⟩
theorem Sv.scanL(hA: ∀a∈A,a.t<N/\a.w<=bz){v:Nat}: ∀(l:List Nat) {σ:SS},Sv A N s al pi σ->Room σ v->(∀a∈l,a<A.length/\(A.getD a default).s=v)->Sv A N s al pi (l.foldl (Ab.scan1 A al pi v) σ)/\kJ σ (l.foldl (Ab.scan1 A al pi v) σ)
 | [],_,h,_,_=>⟨h,.refl⟩
 | a::l,σ,h,r,hl=>by
   obtain⟨h1,h2⟩:=h.scan1 hA r (hl a (by simp)).1 (hl a (by simp)).2
   obtain⟨h3,h4⟩:=Sv.scanL hA l h1 (r.keeps h2) (fun b hb=>hl b (by simp [hb]))
   exact⟨h3,h2.trans h4⟩
theorem Sv.next(h:Sv A N s al pi σ)(hA: ∀a∈A,a.t<N/\a.w<=bz){v:Nat}{k:Int}(hk:σ.K v=some k):Sv A N s al pi (scanS A al pi v (iw σ v))/\kJ (iw σ v) (scanS A al pi v (iw σ v)):=
 Sv.scanL hA _ (h.close hk) (h.room v) (fun _ ha=>ki.1 ha)

def InH(A:List Arc)(al:Nat->Bool)(pi:Nat->Int)(a:Nat):Prop:=al a=true/\pi (A.getD a default).s<(FAR:Int)/\pi (A.getD a default).t<(FAR:Int)
instance (a:Nat):Decidable (InH A al pi a):=by unfold InH;infer_instance
def nJ(A:List Arc)(al:Nat->Bool)(pi:Nat->Int):List Arc:=((zQ A.length).filter fun a=>decide (InH A al pi a)).map fun a=>A.getD a default
theorem uA{a:Arc}:a∈nJ A al pi↔ ∃i,i<A.length/\InH A al pi i/\A.getD i default=a:=by
 unfold nJ
 simp only [List.mem_map,List.mem_filter,List.mem_range,decide_eq_true_eq,and_assoc]
def Feas(A:List Arc)(al:Nat->Bool)(pi:Nat->Int):Prop:= ∀i,i<A.length->InH A al pi i->pi (A.getD i default).s<=(A.getD i default).w+pi (A.getD i default).t
theorem Sv.wk(h:Sv A N s al pi σ): ∀(n:Nat) {v:Nat},(σ.P v).length<=n->(v∈σ.O\/σ.K v≠none)->Wk (nJ A al pi) s v (σ.L v):=by
 have pv: ∀v,(v∈σ.O\/σ.K v≠none)->pi v<(FAR:Int):=fun v hv=>hv.elim (h.pc v) (fun hv=>by
  cases hk:σ.K v with
  |none=>exact absurd hk hv
  |some k=>exact(h.op v k hk).2.2.1)
 intro n
 induction n with
 | zero=>
   intro v hn hv
   rcases h.path v hv with⟨rfl,_,e⟩|⟨a,_,_,_,_,e,_⟩
   . rw [e];exact .nil
   . rw [e]at hn;simp at hn
 | succ n ih=>
   intro v hn hv
   rcases h.path v hv with⟨rfl,_,e⟩|⟨a,k1,k2,k3,k4,k5,k6⟩
   . rw [e];exact .nil
   . rw [k5]at hn
     rw [k6]
     exact Wk.snoc' (ih (v:=(A.getD a default).s) (by simpa using hn) (.inl k4)) (uA.2 ⟨a,k1,⟨k2,h.pc _ k4,by rw [k3];exact pv v hv⟩,rfl⟩) rfl k3 rfl
structure Fe(A:List Arc)(s:Nat)(al:Nat->Bool)(pi:Nat->Int)(σ:SS)(ex:Nat->Prop):Prop where
 opt: ∀v∈σ.O,∀w,Wk (nJ A al pi) s v w->σ.L v<=w
 fr: ∀a,a<A.length->InH A al pi a->(A.getD a default).s∈σ.O-> ¬ex a->(A.getD a default).t∈σ.O\/(σ.K (A.getD a default).t≠none/\σ.L (A.getD a default).t<=σ.L (A.getD a default).s+(A.getD a default).w)
 st:s∈σ.O\/(σ.K s≠none/\σ.L s=0)
theorem Fe.front(f:Fe A s al pi σ (fun _=>False))(h:Sv A N s al pi σ)(hF:Feas A al pi){x w:Nat}(k:Wk (nJ A al pi) s x w):x∈σ.O\/ ∃y,σ.K y≠none/\(σ.L y:Int)+pi y<=w+pi x:=by
 induction k with
 |nil=>exact f.st.imp (fun h=>h) (fun⟨a,b⟩=>⟨s,a,by rw [b];omega⟩)
 | @snoc w a ha hw ih=>
   obtain⟨i,hi,hh,rfl⟩:=uA.1 ha
   have fe:=hF i hi hh
   rcases ih with ih|⟨y,h1,h2⟩
   . rcases f.fr i hi hh ih (fun h=>h)with h1|⟨h1,h2⟩
     . exact .inl h1
     . have:=f.opt _ ih _ hw
       exact .inr ⟨_,h1,by omega⟩
   . exact .inr ⟨y,h1,by omega⟩
theorem Fe.popped(f:Fe A s al pi σ (fun _=>False))(h:Sv A N s al pi σ)(hF:Feas A al pi){v:Nat}{k:Int}(hp:iA σ.K v k):
 (∀w,Wk (nJ A al pi) s v w->σ.L v<=w)/\ ∀x w,x∉σ.O->Wk (nJ A al pi) s x w->(σ.L v:Int)+pi v<=w+pi x:=by
 have key: ∀x w,x∉σ.O->Wk (nJ A al pi) s x w->(σ.L v:Int)+pi v<=w+pi x:=fun x w hx hw=>by
  rcases f.front h hF hw with h1|⟨y,h1,h2⟩
  . exact absurd h1 hx
  . cases hk:σ.K y with
    |none=>exact absurd hk h1
    | some k'=>
      have a:=(h.op y k' hk).2.2.2
      have b:=(h.op v k hp.1).2.2.2
      have c:=hp.2 y k' hk
      omega
 refine⟨fun w hw=>?_,key⟩
 have:=key v w (h.op v k hp.1).2.1 hw
 omega
theorem Fe.close(f:Fe A s al pi σ (fun _=>False))(h:Sv A N s al pi σ)(hF:Feas A al pi){v:Nat}{k:Int}(hp:iA σ.K v k):Fe A s al pi (iw σ v) (fun a=>(A.getD a default).s=v):=by
 have pv:=(f.popped h hF hp).1
 refine⟨fun u hu=>?_,fun a ha hh hs hx=>?_,?_⟩
 . rcases List.mem_append.1 hu with hu|hu
   . exact f.opt u hu
   . simp at hu;subst hu;exact pv
 . rcases List.mem_append.1 hs with hs|hs
   . rcases f.fr a ha hh hs (fun h=>h)with h1|⟨h1,h2⟩
     . exact .inl (zV _ h1)
     . by_cases e:(A.getD a default).t=v
       . exact .inl (zW _ (List.mem_singleton.2 e))
       . exact .inr ⟨by simp only [iw,bZ];rw [if_neg e];exact h1,h2⟩
   . simp at hs;exact absurd hs hx
 . rcases f.st with h1|⟨h1,h2⟩
   . exact .inl (zV _ h1)
   . by_cases e:s=v
     . exact .inl (zW _ (List.mem_singleton.2 e))
     . exact .inr ⟨by simp only [iw,bZ];rw [if_neg e];exact h1,h2⟩
theorem Fe.reach{ex ex':Nat->Prop}(f:Fe A s al pi σ ex){a v lab:Nat}{p:List Nat}(ht:(A.getD a default).t=v)(hl:lab=σ.L (A.getD a default).s+(A.getD a default).w)(hx: ∀b,¬ex' b-> ¬ex b\/(b=a)):Fe A s al pi (oS pi σ v lab p) ex':=by
 unfold oS
 split
 . rename_i hc
   refine⟨f.opt,fun b hb hh hs hbx=>?_,f.st⟩
   rcases hx b hbx with h1|rfl
   . exact f.fr b hb hh hs h1
   . rw [ht]
     rcases hc with hc|hc|⟨h1,h2⟩
     . exact .inl hc
     . have:=hh.2.2;rw [ht]at this;omega
     . exact .inr ⟨fun e=>(by rw [e]at h1;cases h1),by omega⟩
 . rename_i hc
   simp only [not_or]at hc
   obtain⟨c1,c2,c4⟩:=hc
   have c3:=fun h1 h2=>c4 ⟨h1,h2⟩
   have q: ∀u∈σ.O,u≠v:=fun u hu e=>c1 (by subst e;exact hu)
   refine⟨fun u hu=>?_,fun b hb hh hs hbx=>?_,?_⟩
   . simp only [dU,if_neg (q u hu)];exact f.opt u hu
   . simp only [dU,bZ,if_neg (q _ hs)]
     by_cases e:(A.getD b default).t=v
     . right
       simp only [e,if_true]
       refine⟨by nofun,?_⟩
       rcases hx b hbx with h1|rfl
       . rcases f.fr b hb hh hs h1 with h2|⟨h2,h3⟩
         . rw [e]at h2;exact absurd h2 c1
         . rw [e]at h2 h3
           have: ¬σ.L v<=lab:=c3 (by cases hk:σ.K v with|none=>exact absurd hk h2|some k=>rfl)
           omega
       . omega
     . simp only [if_neg e]
       rcases hx b hbx with h1|rfl
       . exact f.fr b hb hh hs h1
       . exact absurd ht e
   . rcases f.st with h1|⟨h1,h2⟩
     . exact .inl h1
     . by_cases e:s=v
       . subst e
         have: ¬σ.L s<=lab:=c3 (by cases hk:σ.K s with|none=>exact absurd hk h1|some k=>rfl)
         omega
       . exact .inr ⟨by simp only [bZ,if_neg e];exact h1,by simp only [dU,if_neg e];exact h2⟩
theorem Fe.exm{ex ex':Nat->Prop}(f:Fe A s al pi σ ex)(h: ∀a,a<A.length->ex a->ex' a):Fe A s al pi σ ex':=
 ⟨f.opt,fun a ha hh hs hx=>f.fr a ha hh hs (fun he=>hx (h a ha he)),f.st⟩
theorem Fe.scan1{ex ex':Nat->Prop}(f:Fe A s al pi σ ex){a v:Nat}(hv:(A.getD a default).s=v)(hx: ∀b,¬ex' b-> ¬ex b\/(b=a)):Fe A s al pi (scan1 A al pi v σ a) ex':=by
 unfold Ab.scan1
 split
 . subst hv
   exact Fe.reach (σ:=evS σ ⟨1,a,0⟩) ⟨f.opt,f.fr,f.st⟩ rfl rfl hx
 . rename_i hal
   refine⟨f.opt,fun b hb hh hs hbx=>?_,f.st⟩
   rcases hx b hbx with h|rfl
   . exact f.fr b hb hh hs h
   . exact absurd hh.1 hal
theorem Fe.scanL{v:Nat}: ∀(l:List Nat) {σ:SS},Fe A s al pi σ (· ∈l)->(∀a∈l,(A.getD a default).s=v)->Fe A s al pi (l.foldl (Ab.scan1 A al pi v) σ) (fun _=>False)
 | [],_,f,_=>f.exm (fun a _ h=>by cases h)
 |a::l,σ,f,hl=>Fe.scanL l (f.scan1 (a:=a) (hl a (by simp)) (fun b hb=>by by_cases e:b=a;exact .inr e;exact .inl (by simp [e,hb]))) (fun b hb=>hl b (by simp [hb]))
theorem Fe.next(f:Fe A s al pi σ (fun _=>False))(h:Sv A N s al pi σ)(hF:Feas A al pi){v:Nat}{k:Int}(hp:iA σ.K v k):Fe A s al pi (scanS A al pi v (iw σ v)) (fun _=>False):=
 Fe.scanL _ ((f.close h hF hp).exm fun a ha hs=>ki.2 ⟨ha,hs⟩) (fun a ha=>(ki.1 ha).2)
theorem Wk.mono{B C:List Arc}(hm: ∀a∈B,a∈C){v w:Nat}(h:Wk B s v w):Wk C s v w:=by
 induction h with
 |nil=>exact .nil
 |snoc ha _ ih=>exact .snoc (hm _ ha) ih
theorem IsD.congr{B C:List Arc}(hm: ∀a,a∈B↔a∈C){v x:Nat}(h:IsD B s v x):IsD C s v x:=by
 rcases h with⟨a,b,c⟩|⟨a,b⟩
 . exact .inl ⟨a,b.mono fun a=>(hm a).1,fun w hw=>c w (hw.mono fun a=>(hm a).2)⟩
 . exact .inr ⟨a,fun w hw=>b w (hw.mono fun a=>(hm a).2)⟩
end
end Go.Ab

end
section
namespace Go.Ab
open Go.Proofs
set_option maxRecDepth 10000
def labC(N:Nat)(L:Nat->Nat):List Value:=(zQ N).map fun v=>.int .i64 (L v:Nat)
def byI:List Nat->Int
 | []=> -1
 |a::_=>(a:Nat)
def byC(N:Nat)(P:Nat->List Nat):List Value:=(zQ N).map fun v=>.int .i64 (byI (P v))
def clC(N:Nat)(O:List Nat):List Value:=(zQ N).map fun v=>.bool (decide (v∈O))
def srL(br bl bb bk N:Nat)(pn p fal fpi vE:Value)(σ:SS):List (Nat×Ob):=
 [(br,.row [pn,p,.slice (some ⟨bl,0,none⟩) N N,.slice (some ⟨bb,0,none⟩) N N,.slice (some ⟨bk,0,none⟩) N N,fal,fpi,vE] 1),(bl,.row (labC N σ.L) 1),(bb,.row (byC N σ.P) 1),(bk,.row (clC N σ.O) 1)]
def srG(vE:Value)(σ:SS):List GL:=[(vE,4,σ.ev.flatMap encE)]
def my(h:Hp)(B:List Nat)(br:Nat)(pn fal fpi:Value)(N:Nat)(σ:SS):Prop:=
 ∃bl bb bk p F vE,B=keys (srL br bl bb bk N pn (ptrTo p) fal fpi vE σ) (srG vE σ)++F/\(∀q∈srL br bl bb bk N pn (ptrTo p) fal fpi vE σ,Has h q.1 q.2)/\fj h (vE,4,σ.ev.flatMap encE)/\(keys (srL br bl bb bk N pn (ptrTo p) fal fpi vE σ) (srG vE σ)).Nodup/\bj h F (ptrTo p) N σ.K/\ ∀c∈F,c∉keys (srL br bl bb bk N pn (ptrTo p) fal fpi vE σ) (srG vE σ)
theorem St.ofHas{M:Nat->Prop}{h:Hp}{L:List (Nat×Ob)}{G:List GL}(ok:h.t.Sized h.n)(hL: ∀q∈L,Has h q.1 q.2)(hG: ∀p∈G,fj h p)(nd:(keys L G).Nodup)(hM: ∀c∈keys L G,M c):St M h h L G:=
 ⟨Mo.refl ok,fun p hp=>⟨.inr (hM _ (gb hp)),hL p hp⟩,fun p hp=>⟨hG p hp,fun b hb=>.inr (hM _ (eC hp hb))⟩,nd⟩
theorem my.mo{M:Nat->Prop}{h h':Hp}{B:List Nat}{br N:Nat}{pn fal fpi:Value}{σ:SS}(r:my h B br pn fal fpi N σ)(g:Mo M h h')(hm: ∀b∈B,¬M b):my h' B br pn fal fpi N σ:=by
 obtain⟨bl,bb,bk,p,F,vE,rfl,h1,h2,h3,h4,h5⟩:=r
 refine⟨bl,bb,bk,p,F,vE,rfl,fun q hq=>g.has (h1 q hq) (hm _ (zV _ (gb hq))),h2.of_get fun b hb=>g.get b (h2.lt g.ok0 hb) (hm b (zV _ (eC (p:=(vE,4,σ.ev.flatMap encE)) m0 hb))),h3,h4.mo g (fun b hb=>hm b (zW _ hb)),h5⟩
theorem my.gr{h h':Hp}{B:List Nat}{br N:Nat}{pn fal fpi:Value}{σ:SS}(r:my h B br pn fal fpi N σ)(g:Gr h h'):my h' B br pn fal fpi N σ:=r.mo (M:=NoM) g.fr (fun _ _ h=>h)
theorem my.lt{h:Hp}(ok:h.t.Sized h.n){B:List Nat}{br N:Nat}{pn fal fpi:Value}{σ:SS}(r:my h B br pn fal fpi N σ): ∀c∈B,c<h.n:=by
 obtain⟨bl,bb,bk,p,F,vE,rfl,h1,h2,h3,h4,h5⟩:=r
 intro c hc
 rcases List.mem_append.1 hc with hc|hc
 . exact(St.ofHas (M:=fun _=>True) ok h1 (fun p hp=>by cases hp with|head=>exact h2|tail _ h=>cases h) h3 (fun _ _=>trivial)).key_lt hc
 . exact h4.lt ok c hc
theorem Gr.mo'{hq h h':Hp}{B:List Nat}(g:Gr hq h)(f:Mo (· ∈B) h h')(hB: ∀c∈B,hq.n<=c):Gr hq h':=((g.fr (M:=NoM)).trans f (fun i hi=>.inr (hB i hi))).gr
theorem my.close{M:Nat->Prop}{h0 h:Hp}{br bl bb bk ph N:Nat}{F:List Nat}{pn fal fpi vE:Value}{σ:SS}(S:St M h0 h (srL br bl bb bk N pn (ptrTo ph) fal fpi vE σ) (srG vE σ))(H:bj h F (ptrTo ph) N σ.K)(hF: ∀c∈F,c∉keys (srL br bl bb bk N pn (ptrTo ph) fal fpi vE σ) (srG vE σ)):
 my h (keys (srL br bl bb bk N pn (ptrTo ph) fal fpi vE σ) (srG vE σ)++F) br pn fal fpi N σ:=
 ⟨bl,bb,bk,ph,F,vE,rfl,fun q hq=>(S.own q hq).2,(S.gown _ m0).1,S.apart,H,hF⟩
theorem my.open{h:Hp}(ok:h.t.Sized h.n){B:List Nat}{br N:Nat}{pn fal fpi:Value}{σ:SS}(r:my h B br pn fal fpi N σ): ∃bl bb bk ph F vE,B=keys (srL br bl bb bk N pn (ptrTo ph) fal fpi vE σ) (srG vE σ)++F/\St (· ∈B) h h (srL br bl bb bk N pn (ptrTo ph) fal fpi vE σ) (srG vE σ)/\bj h F (ptrTo ph) N σ.K/\ ∀c∈F,c∉keys (srL br bl bb bk N pn (ptrTo ph) fal fpi vE σ) (srG vE σ):=by
 obtain⟨bl,bb,bk,ph,F,vE,rfl,h1,h2,h3,h4,h5⟩:=r
 exact⟨bl,bb,bk,ph,F,vE,rfl,St.ofHas ok h1 (fun p hp=>by cases hp with|head=>exact h2|tail _ h=>cases h) h3 (fun c hc=>zV _ hc),h4,h5⟩
def IterW(E:Env)(g:FuncId)(post:List Value)(h0:Hp)(D W:Nat->Prop)(xs:List (List Value)):Prop:=
 ∀lb J Z,(∀v h,¬Z (.pan v) h)->Yld E lb J Z xs->(∀i h F h',J i h F->Mo W h h'->J i h' F)-> ∀h F,ItS h0 D h F->(∀b,W b->h.get b=h0.get b)->(∀b∈F,¬W b)->J 0 h F->dS E g ([]++[.func (.yield lb) #[] #[]]++post) none h (YQ J Z xs.length)
theorem iter_w{E:Env}{g:FuncId}{post:List Value}{h0:Hp}{D:Nat->Prop}{xs:List (List Value)}(H:qG E g [] post h0 D xs):IterW E g post h0 D NoM xs:=fun lb J Z hz Y _ h F s _ _ hj=>H lb J Z hz Y h F s hj
theorem nG(l:List Nat):(l.flatMap cJ).length=l.length:=by rw [aX ii];omega
theorem pP{h:Hp}{p:GL}(g:fj h p){c:Nat}(hb:av p.1 c):dN p=some c:=by
 rcases g with⟨e,_⟩|⟨b,n,e,_⟩
 . rw [e]at hb;exact hb.elim
 . obtain⟨v,k,vs⟩:=p
   simp only []at e hb
   subst e
   exact congrArg some hb
def Tryz.FFs493:=aj Z1<|aj Z2<|aj Z0<|aj Z3<|Z4
def rvC(n k:Nat)(f:Nat->Value):List Value:=(zQ n).map fun p=>if p<k\/n<=p+k then f (n-1-p)else f p
theorem lJ{n k:Nat}{f:Nat->Value}:(rvC n k f).length=n:=by simp [rvC]
theorem oR{n k i:Nat}{f:Nat->Value}(h:i<n):(rvC n k f)[i]? =some (if i<k\/n<=i+k then f (n-1-i)else f i):=jE (F:=fun p=>if p<k\/n<=p+k then f (n-1-p)else f p) h
theorem rvC_step{n k:Nat}{f:Nat->Value}(h:2*k+1<n):((rvC n k f).set k (f (n-1-k))).set (n-1-k) (f k)=rvC n (k+1) f:=by
 refine Xx fun i=>?_
 rw [List.getElem?_set,List.getElem?_set,Xs,lJ]
 by_cases hi:i<n
 . rw [oR hi,oR hi]
   by_cases e1:n-1-k=i
   . subst e1
     rw [if_pos rfl,if_pos hi,if_pos (.inr (by omega)),show n-1-(n-1-k)=k by omega]
   . rw [if_neg e1]
     by_cases e2:k=i
     . subst e2
       rw [if_pos rfl,if_pos hi,if_pos (.inl (by omega))]
     . rw [if_neg e2]
       congr 1
       by_cases c:i<k\/n<=i+k
       . rw [if_pos c,if_pos (by omega)]
       . rw [if_neg c,if_neg (by omega)]
 . rw [if_neg (by omega),if_neg (by omega)]
   rw [zX (by rw [lJ];omega),zX (by rw [lJ];omega)]
theorem rvC_zero{xs:List Nat}:xs.flatMap cJ=rvC xs.length 0 fun p=>.int .i64 (xs.getD p 0:Nat):=by
 have e:xs.flatMap cJ=xs.map fun(x:Nat)=>Value.int .i64 x:=by
  rw [zR,Xc,zR];rfl
 rw [e]
 refine Xx fun i=>?_
 by_cases hi:i<xs.length
 . rw [oR hi,if_neg (by omega)];simp [hi]
 . rw [zX (by simpa using hi),zX (by rw [lJ];omega)]
theorem rvC_done{xs:List Nat}{k:Nat}(h:xs.length<=2*k+1)(hk:2*k<=xs.length):rvC xs.length k (fun p=>.int .i64 (xs.getD p 0:Nat))=xs.reverse.flatMap cJ:=by
 have e:xs.reverse.flatMap cJ=xs.reverse.map fun(x:Nat)=>Value.int .i64 x:=by
  rw [zR,Xc,zR];rfl
 rw [e]
 refine Xx fun i=>?_
 by_cases hi:i<xs.length
 . rw [oR hi,Xy,List.getElem?_reverse hi]
   have hj:xs.length-1-i<xs.length:=by omega
   rw [zS hj]
   have g: ∀{j:Nat} (hj:j<xs.length),xs.getD j 0=xs[j]:=fun hj=>by simp [zN,hj]
   by_cases c:i<k\/xs.length<=i+k
   . rw [if_pos c,g hj];rfl
   . rw [if_neg c]
     have:i=xs.length-1-i:=by omega
     rw [g hi]
     simp only [Xt]
     congr 3
     simp only [<-this]
 . rw [zX (by rw [lJ];omega),zX (by simpa using hi)]
theorem yx{h0:Hp}(ok:h0.t.Sized h0.n){v:Value}{xs:List Nat}(hG:fj h0 (v,1,xs.flatMap cJ))(hn:xs.length<1000000):
 Ret zM 93 [v] h0 fun _ h'=>Mo (av v) h0 h'/\fj h' (v,1,xs.reverse.flatMap cJ):=by
 rcases hG with⟨e1,e2⟩|⟨b,n,e1,e2,e3⟩
 . simp only []at e1 e2
   subst e1
   have:xs=[]:=by
    cases xs with
    |nil=>rfl
    |cons a l=>simp [cJ]at e2
   subst this
   have S:=Si ok
   refine ab (n:=28) (rs:=[]) rfl Tryz.e93 rfl rfl rfl (lbt rfl) ?_
   simp only [BS,LB,Nat.reduceLT,Nat.reduceEqDiff,Int.reduceSub,zU,Tryz.FFs493]
   rw [bC]
   have wm:aq .i64 (-1)= -1:=rfl
   have c0: ¬((0:Int)< -1):=by omega
   simp only [BS,LB,Nat.reduceLT,Nat.reduceEqDiff,wm,c0]
   exact⟨S.gr.fr,.inl ⟨rfl,rfl⟩⟩
 . simp only []at e1 e2 e3
   subst e1
   have en:n=xs.length:=by rw [nG]at e2;omega
   subst en
   rw [rvC_zero]at e3
   have S:=St.init1 ok (o:=.row _ 1) e3
   have w1:aq .i64 ((xs.length:Int)-1)=(xs.length:Int)-1:=by rw [wrap64]<;>omega
   refine ab (n:=28) (rs:=[]) rfl Tryz.e93 rfl rfl rfl (lbt rfl) ?_
   simp only [BS,LB,Nat.reduceLT,Nat.reduceEqDiff,Tryz.FFs493,w1]
   refine bA (fun(k:Nat) ρ h=>2*k<=xs.length/\St (· =b) h0 h [(b,.row (rvC xs.length k fun p=>.int .i64 (xs.getD p 0:Nat)) 1)] []/\ρ 0=.slice (some ⟨b,0,some 1⟩) xs.length xs.length/\ρ 2=.int .i64 (k:Nat)/\ρ 3=.int .i64 ((xs.length:Int)-1-k)) (fun k=>xs.length-k) ?_ 0 _ _ ?_
   . clear S
     intro k ih ρ hS ⟨hk,S,r0,r2,r3⟩
     by_cases hlt:2*k+1<xs.length
     . have c1:(k:Int)<(xs.length:Int)-1-k:=by omega
       have hk1:k<xs.length:=by omega
       have hk2:xs.length-1-k<xs.length:=by omega
       have ej:(xs.length:Int)-1-k=((xs.length-1-k:Nat):Int):=by omega
       have wa:aq .i64 ((k:Int)+1)=((k+1:Nat):Int):=by rw [wrap64]<;>omega
       have wb:aq .i64 (((xs.length-1-k:Nat):Int)-1)=(xs.length:Int)-1-(k+1:Nat):=by rw [wrap64]<;>omega
       have q1:=(S.row (b:=b) m0).load1 (oR hk1)
       have q2:=(S.row (b:=b) m0).load1 (oR hk2)
       rw [if_neg (by omega)]at q1 q2
       rw [ej]at r3 c1
       simp only [BS,LB,Nat.reduceLT,Nat.reduceEqDiff,r2,r3,c1]
       refine aD (aM rfl) (q:=0) (ps:=[]) (by kernel_rfl) ?_
       simp only [BS,LB,cls,Nat.reduceLT,Nat.reduceEqDiff,Nat.reduceAdd,Nat.reducePow,Nat.reduceDiv,Nat.reduceMod,Nat.reduceLeDiff,Tryz.FFs493,r0,r2,r3,hk1,hk2,q1,q2]
       refine dK (aI S (i:=0) rfl Xu bG (by rw [lJ];exact hk1) ono) ?_
       clear S;rintro h3 ⟨S,mo1⟩
       simp only [LC]at S
       simp only [BS,LB,cls,Nat.reduceLT,Nat.reduceEqDiff,Nat.reduceAdd,Nat.reducePow,Nat.reduceDiv,Nat.reduceMod,Nat.reduceLeDiff,Tryz.FFs493,hk2]
       refine dK (aI S (i:=0) rfl Xu bG (by rw [Xs,lJ];exact hk2) ono) ?_
       clear S;rintro h4 ⟨S,mo2⟩
       simp only [LC]at S
       have st:=rvC_step (f:=fun p=>.int .i64 (xs.getD p 0:Nat)) hlt
       rw [st]at S
       simp only [BS,LB,Nat.reduceLT,Nat.reduceEqDiff,Nat.reduceAdd,r2,r3,wa,wb]
       exact ih (k+1) _ _ (by omega) ⟨by omega,S,by simp [aa,r0],by simp [aa],by simp [aa]⟩
     . have c1: ¬(k:Int)<(xs.length:Int)-1-k:=by omega
       simp only [BS,LB,Nat.reduceLT,Nat.reduceEqDiff,r2,r3,c1]
       have fin:=S.row m0
       rw [rvC_done (by omega) hk]at fin
       exact⟨S.fr.mono (fun c hc=>Eq.symm hc),.inr ⟨b,xs.length,rfl,by show xs.length*1=(xs.reverse.flatMap cJ).length;rw [nG,List.length_reverse];omega,fin⟩⟩
   . exact⟨by omega,S,by simp [aa,bn],by simp [aa],by simp [aa]⟩

def Tryz.FFf2171:=aj Z1<|aj Z2<|aj Z0<|aj Z3<|aj Z7<|aj Z9<|aj Z14<|aj Z17<|aj Z19<|aj Z27<|aj Z36<|aj Z5<|Z82
def Tryz.FFf2172:=aj Z1<|aj Z2<|aj Z0<|aj Z3<|aj Z7<|aj Z9<|aj Z14<|aj Z17<|aj Z19<|aj Z27<|aj Z36<|aj Z4<|Z82
theorem rep64_ok{h0:Hp}(ok:h0.t.Sized h0.n){v:Value}{x:Int}{N:Nat}(hv:aA h0 1 (encI .i64) v [x])(h1:1<=N)(hN:N<1000):Ret zM 171 [v,.int .i64 N] h0 fun r h'=>Gr h0 h'/\ ∃b,r=.slice (some ⟨b,0,none⟩) N N/\h0.n<=b/\Row h' b (zO N (.int .i64 x)) 1:=by
 have S:=Si ok
 have c1: ¬((N:Int)<0):=by omega
 have c2: ¬((9223372036854775807:Int)<(N:Int)):=by omega
 have wn:aq .u64 (N:Int)=(N:Int):=sX (by omega) (by omega)
 have w1:aq .u64 1=1:=rfl
 have wm:aq .i64 (N:Int)=(N:Int):=by rw [wrap64]<;>omega
 obtain⟨bx,ox,sx,cx,rfl,hcx,hx⟩: ∃b o s c,v=.slice (some ⟨b,o,s⟩) 1 c/\1<=c/\h0.load b o 1=some [.int .i64 x]:=by
  rcases hv with⟨_,h⟩|⟨b,o,s,c,rfl,h2,h3⟩
  . cases h
  . exact⟨b,o,s,c,rfl,h2,h3⟩
 refine ab (n:=48) (rs:=[.tmp 4]) rfl Tryz.e171 rfl rfl rfl (lbt rfl) ?_
 simp only [BS,LB,jH,bW,jz,Nat.reduceLT,Nat.reduceEqDiff,zU,Tryz.FFf2171,c1,wn,w1]
 refine au (mul_ok S.ok hN) ?_;intro h g;replace S:=S.call g;clear g
 simp only [BS,LB,jH,bW,jz,Nat.reduceLT,Nat.reduceEqDiff,Int.reduceLT,Tryz.FFf2171,c2,wm]
 refine ag (oV (by exact XB) (by exact Tryz.e2E) (by omega) (by omega)) S ?_;clear S;intro h bb S n_bb
 rw [zT,o6]at S
 simp only [BS,LB,Nat.reduceLT,Nat.reduceEqDiff,zT]
 refine fL (S.copyO (i:=0) (l:=zO 1 (.int .i64 x)) rfl XB XU (by rw [i9 h1];decide) (by rw [i9 h1];exact S.old hx (fun h=>h)) (by simp;omega) rfl) ?_
 clear S;rintro h w ⟨rfl,S⟩
 simp only [LC]at S
 rw [show zO N (Value.int .i64 0)=zO 0 (.int .i64 x)++zO N (.int .i64 0) by simp,qK h1]at S
 rw [i9 h1]
 simp only [BS,LB,Nat.reduceLT,Nat.reduceEqDiff,zU]
 refine bA (fun(n:Nat) ρ h=>1<=n/\n<=N/\St NoM h0 h [(bb,.row (zO n (.int .i64 x)++zO (N-n) (.int .i64 0)) 1)] []/\ρ 7=.slice (some ⟨bb,0,none⟩) N N/\ρ 8=.int .i64 n) (fun n=>N-n) ?_ 1 _ _ ?_
 . clear S
   intro n ih ρ h ⟨hn1,hn,S,r7,r8⟩
   by_cases hlt:n<N
   . simp only [BS,LB,Nat.reduceLT,Nat.reduceEqDiff,Tryz.FFf2171,r7,r8,aP,hlt]
     refine aD (aM rfl) (q:=0) (ps:=[]) (by kernel_rfl) ?_
     simp only [BS,LB,cls,Nat.reduceLT,Nat.reduceEqDiff,Nat.reduceAdd,Nat.reducePow,Nat.reduceDiv,Nat.reduceMod,Nat.reduceLeDiff,Xt,Option.map_none,r7,r8,wj XB XU hlt,uJ XB XU (Nat.le_of_lt hlt)]
     have hm:0<dL n (N-n):=by
      rcases XC n (N-n)with h|h
      . rw [i9 h];omega
      . rw [qR h];omega
     have hm2:dL n (N-n)<=N-n/\dL n (N-n)<=n:=by
      rcases XC n (N-n)with h|h
      . rw [i9 h];omega
      . rw [qR h];omega
     refine jK (S.copyO (i:=0) (l:=zO (dL n (N-n)) (.int .i64 x)) rfl XB XU hm ?_ (by simp;omega) (by simp;right;rfl)) ?_
     . rw [(S.row m0).load (by simp;omega),Xl,Xh]
       congr 1
       rw [Xg (by simp;omega),XO]
       congr 1
       omega
     clear S;rintro h w ⟨rfl,S⟩
     simp only [LC]at S
     rw [qK hm2.1]at S
     generalize dL n (N-n)=k at S hm hm2
     have w:aq .i64 ((n:Int)+(k:Int))=((n+k:Nat):Int):=by rw [wrap64]<;>omega
     simp only [BS,LB,cls,Nat.reduceLT,Nat.reduceEqDiff,Nat.reduceAdd,Nat.reducePow,Nat.reduceDiv,Nat.reduceMod,Nat.reduceLeDiff,w]
     exact ih (n+k) _ _ (by omega) ⟨by omega,by omega,by rw [show N-(n+k)=N-n-k by omega];exact S,by simp [aa,r7],by simp [aa]⟩
   . simp only [BS,LB,ac,Nat.reduceLT,Nat.reduceEqDiff,Tryz.FFf2171,r7,r8,aP,hlt]
     have e:n=N:=by omega
     subst e
     have R:=S.row (b:=bb) m0
     rw [Nat.sub_self,XP,XI]at R
     exact⟨S.gr,bb,rfl,n_bb,R⟩
 . exact⟨Xn _,h1,by simpa using S,by simp [aa],by simp [aa]⟩
theorem repI_ok{h0:Hp}(ok:h0.t.Sized h0.n){v:Value}{x:Int}{N:Nat}(hv:aA h0 1 (encI .i64) v [x])(h1:1<=N)(hN:N<1000):Ret zM 172 [v,.int .i64 N] h0 fun r h'=>Gr h0 h'/\ ∃b,r=.slice (some ⟨b,0,none⟩) N N/\h0.n<=b/\Row h' b (zO N (.int .i64 x)) 1:=by
 have S:=Si ok
 have c1: ¬((N:Int)<0):=by omega
 have c2: ¬((9223372036854775807:Int)<(N:Int)):=by omega
 have wn:aq .u64 (N:Int)=(N:Int):=sX (by omega) (by omega)
 have w1:aq .u64 1=1:=rfl
 have wm:aq .i64 (N:Int)=(N:Int):=by rw [wrap64]<;>omega
 obtain⟨bx,ox,sx,cx,rfl,hcx,hx⟩: ∃b o s c,v=.slice (some ⟨b,o,s⟩) 1 c/\1<=c/\h0.load b o 1=some [.int .i64 x]:=by
  rcases hv with⟨_,h⟩|⟨b,o,s,c,rfl,h2,h3⟩
  . cases h
  . exact⟨b,o,s,c,rfl,h2,h3⟩
 refine ab (n:=48) (rs:=[.tmp 4]) rfl Tryz.e172 rfl rfl rfl (lbt rfl) ?_
 simp only [BS,LB,jH,bW,jz,Nat.reduceLT,Nat.reduceEqDiff,zU,Tryz.FFf2172,c1,wn,w1]
 refine au (mul_ok S.ok hN) ?_;intro h g;replace S:=S.call g;clear g
 simp only [BS,LB,jH,bW,jz,Nat.reduceLT,Nat.reduceEqDiff,Int.reduceLT,Tryz.FFf2172,c2,wm]
 refine ag (oV (by exact Xp) (by exact XW) (by omega) (by omega)) S ?_;clear S;intro h bb S n_bb
 rw [zT,o6]at S
 simp only [BS,LB,Nat.reduceLT,Nat.reduceEqDiff,zT]
 refine fL (S.copyO (i:=0) (l:=zO 1 (.int .i64 x)) rfl Xp Xu (by rw [i9 h1];decide) (by rw [i9 h1];exact S.old hx (fun h=>h)) (by simp;omega) rfl) ?_
 clear S;rintro h w ⟨rfl,S⟩
 simp only [LC]at S
 rw [show zO N (Value.int .i64 0)=zO 0 (.int .i64 x)++zO N (.int .i64 0) by simp,qK h1]at S
 rw [i9 h1]
 simp only [BS,LB,Nat.reduceLT,Nat.reduceEqDiff,zU]
 refine bA (fun(n:Nat) ρ h=>1<=n/\n<=N/\St NoM h0 h [(bb,.row (zO n (.int .i64 x)++zO (N-n) (.int .i64 0)) 1)] []/\ρ 7=.slice (some ⟨bb,0,none⟩) N N/\ρ 8=.int .i64 n) (fun n=>N-n) ?_ 1 _ _ ?_
 . clear S
   intro n ih ρ h ⟨hn1,hn,S,r7,r8⟩
   by_cases hlt:n<N
   . simp only [BS,LB,Nat.reduceLT,Nat.reduceEqDiff,Tryz.FFf2172,r7,r8,aP,hlt]
     refine aD (aM rfl) (q:=0) (ps:=[]) (by kernel_rfl) ?_
     simp only [BS,LB,cls,Nat.reduceLT,Nat.reduceEqDiff,Nat.reduceAdd,Nat.reducePow,Nat.reduceDiv,Nat.reduceMod,Nat.reduceLeDiff,Xt,Option.map_none,r7,r8,wj Xp Xu hlt,uJ Xp Xu (Nat.le_of_lt hlt)]
     have hm:0<dL n (N-n):=by
      rcases XC n (N-n)with h|h
      . rw [i9 h];omega
      . rw [qR h];omega
     have hm2:dL n (N-n)<=N-n/\dL n (N-n)<=n:=by
      rcases XC n (N-n)with h|h
      . rw [i9 h];omega
      . rw [qR h];omega
     refine jK (S.copyO (i:=0) (l:=zO (dL n (N-n)) (.int .i64 x)) rfl Xp Xu hm ?_ (by simp;omega) (by simp;right;rfl)) ?_
     . rw [(S.row m0).load (by simp;omega),Xl,Xh]
       congr 1
       rw [Xg (by simp;omega),XO]
       congr 1
       omega
     clear S;rintro h w ⟨rfl,S⟩
     simp only [LC]at S
     rw [qK hm2.1]at S
     generalize dL n (N-n)=k at S hm hm2
     have w:aq .i64 ((n:Int)+(k:Int))=((n+k:Nat):Int):=by rw [wrap64]<;>omega
     simp only [BS,LB,cls,Nat.reduceLT,Nat.reduceEqDiff,Nat.reduceAdd,Nat.reducePow,Nat.reduceDiv,Nat.reduceMod,Nat.reduceLeDiff,w]
     exact ih (n+k) _ _ (by omega) ⟨by omega,by omega,by rw [show N-(n+k)=N-n-k by omega];exact S,by simp [aa,r7],by simp [aa]⟩
   . simp only [BS,LB,ac,Nat.reduceLT,Nat.reduceEqDiff,Tryz.FFf2172,r7,r8,aP,hlt]
     have e:n=N:=by omega
     subst e
     have R:=S.row (b:=bb) m0
     rw [Nat.sub_self,XP,XI]at R
     exact⟨S.gr,bb,rfl,n_bb,R⟩
 . exact⟨Xn _,h1,by simpa using S,by simp [aa],by simp [aa]⟩
def Tryz.FFs6115:=aj Z1<|aj Z2<|aj Z0<|aj Z3<|aj Z5<|aj Z13<|aj Z6<|aj Z10<|aj Z4<|aj Z8<|aj Z12<|Z11
theorem yJ{h0:Hp}(ok:h0.t.Sized h0.n){p:Value}{γ:Gra}{nb:Nat}(c:bN h0 nb p γ):bK zM 115 [p] h0 (.int .i64 γ.arcs.length):=by
 have S:=Si ok
 obtain⟨b,vx,vy,va,vo,vi,rfl,r,ga,_⟩:=c.ex
 have l0:=r.load1 (o:=3) rfl
 refine ab (n:=11) (rs:=[.tmp 2]) rfl Tryz.e115 rfl rfl rfl (lbt rfl) ?_
 simp only [BS,LB,ac,Nat.reduceLT,Nat.reduceEqDiff,Tryz.FFs6115,l0,ga.A.lenq]
 exact S.gr
def tY(h:Hp)(p:Value)(m:List Int)(n:Int):Prop:=(p=.pointer none/\m=[]/\n=0)\/((∃k,lq h k p m)/\n=lmax m+1)
theorem tY.gr{h h':Hp}{p:Value}{m:List Int}{n:Int}(g:Gr h h')(c:tY h p m n):tY h' p m n:=c.imp (fun h=>h) (fun⟨⟨k,h⟩,e⟩=>⟨⟨k,h.gr g⟩,e⟩)
def BitsAt(h:Hp)(p:Value)(a w:Int)(nn:Bool):Prop:=(p=.pointer none/\a=0/\w=0/\nn=false)\/ ∃b x y,p=ptrTo b/\Row h b [.int .i64 a,.int .i64 w,x,y] 1/\nn=true
theorem BitsAt.gr{h h':Hp}{p:Value}{a w:Int}{nn:Bool}(g:Gr h h')(c:BitsAt h p a w nn):BitsAt h' p a w nn:=c.imp (fun h=>h) (fun⟨b,x,y,e,r,n⟩=>⟨b,x,y,e,r.gr g,n⟩)
theorem aA.blt{α:Type}{h:Hp}{k:Nat}{enc:α->List Value}{v:Value}{xs:List α}(ok:h.t.Sized h.n)(s:aA h k enc v xs){c:Nat}(hc:av v c):c<h.n:=by
 rcases s with⟨rfl,_⟩|⟨b,o,_,_,rfl,_,h3⟩
 . exact hc.elim
 . have:b=c:=hc
   subst this
   cases hg:h.get b with
   |none=>simp [Hp.load,hg]at h3
   |some x=>exact fm ok hg
open Tryz in
def Tryz.FFf3215:=aj Z1<|aj Z2<|aj Z0<|aj Z3<|aj Z7<|aj Z6<|aj Z10<|aj Z4<|aj Z8<|aj Z12<|aj Z11<|aj Z26<|aj a318<|aj s318<|aj z318<|n318
def mJ(A:List Arc)(f:Arc->Nat)(ids:List Nat):List (List Value):=ids.map fun(id:Nat)=>[.int .i64 id,.agg ⟨cy ⟨0,f (A.getD id default),(A.getD id default).w⟩⟩]
theorem arcs_ok'{h0:Hp}(ok:h0.t.Sized h0.n){p vl ve:Value}(f1:Fl p)(f2:Fl vl)(f3:Fl ve):Ret zM 173 [p,vl,ve] h0 fun v h'=>Gr h0 h'/\ ∃b1 b2 b3,v=.func (.func 215) #[] #[ptrTo b1,ptrTo b2,ptrTo b3]/\h0.n<=b1/\h0.n<=b2/\h0.n<=b3/\h'.load b1 0 1=some [vl]/\h'.load b2 0 1=some [p]/\h'.load b3 0 1=some [ve]:=by
 have S:=Si ok
 refine ab (n:=8) (rs:=[.tmp 6]) rfl Tryz.e173 rfl rfl rfl (lbt rfl) ?_
 simp only [BS,Nat.reduceLT]
 refine ag (cI (by assumption)) S ?_;clear S;intro h b2 S n_b2
 simp only [BS,Nat.reduceLT,Nat.reduceEqDiff,if_false]
 refine ag (cI (by assumption)) S ?_;clear S;intro h b1 S n_b1
 simp only [BS,Nat.reduceLT,Nat.reduceEqDiff,if_false]
 refine ag (cI (by assumption)) S ?_;clear S;intro h b3 S n_b3
 simp only [BS,LB,ac,Nat.reduceLT,Nat.reduceEqDiff]
 exact⟨S.gr,b1,b2,b3,rfl,n_b1,n_b2,n_b3,S.ld m1 rfl,S.ld m2 rfl,S.ld m0 rfl⟩
theorem arcs_it{hq h0:Hp}(okq:hq.t.Sized hq.n)(ok0:h0.t.Sized h0.n)(kq:ir hq h0)(nq:hq.n<=h0.n){p vl:Value}{γ:Gra}{nb b1 b2 b3:Nat}(hn:bN hq nb p γ){ids:List Nat}(hl:aA h0 1 cJ vl ids)(hids: ∀id∈ids,id<γ.arcs.length)(hlen:ids.length<1000){g:FuncId}{f:Arc->Nat}(hk:KeyF zM g f)
 (e1:h0.load b1 0 1=some [vl]) (e2:h0.load b2 0 1=some [p]) (e3:h0.load b3 0 1=some [.func (.func g) #[] #[]]):
 qG zM 215 [] [ptrTo b1,ptrTo b2,ptrTo b3] h0 (fun c=>c=b1\/c=b2\/c=b3\/av vl c\/c<hq.n) (mJ γ.arcs f ids):=by
 intro lb J Z hz Y h F s hj
 refine enter (n:=32) (rs:=[]) rfl Tryz.e215 rfl rfl rfl (lbt rfl) ?_
 have l1:=s.load ok0 e1 (.inl rfl)
 simp only [BS,LB,Nat.reduceLT,Tryz.FFf3215,l1,hl.lenq]
 refine bA (fun(i:Nat) ρ h=>i<=ids.length/\ ∃F,ItS h0 (fun c=>c=b1\/c=b2\/c=b3\/av vl c\/c<hq.n) h F/\J i h F/\ρ 0=.func (.yield lb) #[] #[]/\ρ 1=ptrTo b1/\ρ 2=ptrTo b2/\ρ 3=ptrTo b3/\ρ 9=vl/\ρ 10=.int .i64 ids.length/\ρ 11=.int .i64 i) (fun i=>ids.length-i) ?_ 0 _ _ ?_
 . clear l1
   intro i ih ρ h ⟨hi,F,s,hj,r0,r1,r2,r3,r9,r10,r11⟩
   by_cases hlt:i<ids.length
   . obtain⟨c,o,hidx,hld⟩:=(s.sl ok0 hl (fun b h=>.inr (.inr (.inr (.inl h))))).ix (kd:=.i64) ii hlt
     have l2:=s.load ok0 e2 (.inr (.inl rfl))
     have l3:=s.load ok0 e3 (.inr (.inr (.inl rfl)))
     have hid:=hids _ (Xi hlt)
     have nt:bN h nb p γ:=hn.keep okq (s.keep kq nq (fun c hc=>.inr (.inr (.inr (.inr hc)))))
     have w:aq .i64 ((i:Int)+1)=((i+1:Nat):Int):=by rw [wrap64]<;>omega
     have S:=Si s.ok
     simp only [BS,LB,Nat.reduceLT,Nat.reduceEqDiff,Tryz.FFf3215,r2,r9,r10,r11,aP,hlt,hidx,hld,cJ,l2]
     refine step_ret (qh S.ok nt hid) ?_
     rintro v h2 ⟨g1,rfl⟩
     replace S:=S.call g1;clear g1
     simp only [BS,LB,Nat.reduceLT,Nat.reduceEqDiff,Tryz.FFf3215]
     refine ag aF S ?_;clear S;intro h b7 S n_b7
     simp only [BS,LB,Nat.reduceLT,Nat.reduceEqDiff,cy]
     refine aC (S.store (i:=0) rfl ?_ ?_ rfl rfl ?_ ono) ?_
     . exact(by exact Tryz.s87)
     . exact(by intro x e;cases e)
     . exact lbt rfl
     clear S;rintro h ⟨S,mo⟩;clear mo;simp only [LC,an,lay,Xe,Xf,Nat.reduceAdd]at S
     simp only [BS,LB,Nat.reduceLT,Nat.reduceEqDiff]
     refine aD (aM rfl) (q:=0) (ps:=[(4,6)]) (by kernel_rfl) ?_
     simp only [BS,LB,cls,Nat.reduceLT,Nat.reduceEqDiff,Nat.reduceAdd,Nat.reducePow,Nat.reduceDiv,Nat.reduceMod,Nat.reduceLeDiff,Tryz.FFf3215,r0,r3,S.old l3 (fun h=>h),S.lds (b:=b7) (o:=0) (n:=3) m0 (lbt rfl)]
     have hlt7:=(S.row (b:=b7) m0).lt S.ok
     refine df (hk _ γ.arcs[ids[i]] S.ok) ?_
     intro h' g1
     have lv:=aw g1 hlt7
     replace S:=S.call g1;clear g1
     simp only [BS,LB,cls,Nat.reduceLT,Nat.reduceEqDiff,Nat.reduceAdd,Nat.reducePow,Nat.reduceDiv,Nat.reduceMod,Nat.reduceLeDiff,Tryz.FFf3215,S.ld (b:=b7) (o:=2) m0 rfl]
     have gd:γ.arcs.getD ids[i] default=γ.arcs[ids[i]]:=by simp [zN,hid]
     have hx:(mJ γ.arcs f ids)[i]? =some [.int .i64 (ids[i]:Nat),.agg ⟨[.int .i64 0,.int .i64 (f γ.arcs[ids[i]]:Nat),.int .i64 (γ.arcs[ids[i]].w:Nat)]⟩]:=by
      unfold mJ
      rw [Xy,zS hlt]
      simp only [Xt,gd]
      rfl
     refine dn_yield hz Y (s.gr S.gr) (Y.gr _ _ _ _ hj S.gr) (j:=i) hx ?_ ?_
     . intro h' F' a s' _ _
       simp only [BS,LB,cls,Nat.reduceLT,Nat.reduceEqDiff,Nat.reduceAdd,Nat.reducePow,Nat.reduceDiv,Nat.reduceMod,Nat.reduceLeDiff,r11,w]
       refine⟨by simp only [bH,bO,bg,bV,bD,ne_eq,not_false_eq_true,bU,cu,bJ,bF,cB,dt,aS,Nat.reduceLT,Nat.reduceEqDiff,reduceIte,Xd,r0,r1,r2,r3,ae,aG lv,aB lv],?_⟩
       exact ih (i+1) _ _ (by omega) ⟨by omega,F',s',a,by simp [aa,r0],by simp [aa,r1,ae],by simp [aa,r2,ae],by simp [aa,r3,ae],by simp [aa,r9],by simp [aa,r10],by simp [aa]⟩
     . intro h' a _
       simp only [BS,LB,cls,Nat.reduceLT,Nat.reduceEqDiff,Nat.reduceAdd,Nat.reducePow,Nat.reduceDiv,Nat.reduceMod,Nat.reduceLeDiff]
       refine⟨by simp only [bH,bO,bg,bV,bD,ne_eq,not_false_eq_true,bU,cu,bJ,bF,cB,dt,aS,Nat.reduceLT,Nat.reduceEqDiff,reduceIte,Xd,r0,r1,r2,r3,ae,aG lv,aB lv],?_⟩
       exact iV rfl ⟨rfl,.inr (.inl ⟨_,rfl,a⟩)⟩
   . simp only [BS,LB,Nat.reduceLT,r10,r11,aP,hlt]
     have:i=ids.length:=by omega
     subst this
     exact dD (cS ⟨rfl,_,rfl,rfl,.inl ⟨_,F,rfl,by simpa [mJ]using hj⟩⟩)
 . exact⟨by omega,F,s,hj,by simp [aa,cD],by simp [aa,cD,ae],by simp [aa,cD,ae],by simp [aa,cD,ae],by simp [aa],by simp [aa],by simp [aa]⟩
def Tryz.FFf4174:=aj Z1<|aj Z2<|aj Z0<|aj Z3<|aj Z7<|aj Z5<|aj Z4<|aj Z15<|aj Z16<|aj Z68<|aj Z23<|aj Z83<|aj Z84<|aj Z20<|Z24
theorem ints_set(l:List Int)(i:Nat)(x:Int):(ints l).set i (.int .i64 x)=ints (l.set i x):=by
 have e4: ∀l:List Int,ints l=l.map fun x=>Value.int .i64 x:=fun l=>by
  unfold ints;rw [zR,Xc,zR];rfl
 rw [e4,e4,List.map_set]
theorem reach_ok{h0:Hp}(ok:h0.t.Sized h0.n){br ba bc c N v arc far:Nat}{p vD vO:Value}{F:List Nat}{K:Nat->Option Int}{O:List Nat}{es:List (Value×Value×Nat)}{f:Int->Option Value}{aL:List Int}
 (R:Row h0 br [p,vD,.slice (some ⟨ba,0,none⟩) N N,vO,.map (some bc)] 1) (H:bj h0 F p N K) (hN:N<=1000) (hc:h0.get bc=some (.map es c)) (MI:cM es c f) (CF:ClF O f) (hA:Row h0 ba (ints aL) 1) (lA:aL.length=N) (hv:v<N)
 (d1:ba∉F) (d2:br∉F) (d3:br≠ba):
 Ret zM 174 [ptrTo br,.int .i64 v,.int .i64 arc,.int .i64 far] h0 fun _ h'=>Mo (fun c=>c∈F\/c=ba) h0 h'/\ ∃F' aL',bj h' F' p N (iB O K v far)/\(∀b∈F',b∈F\/h0.n<=b)/\Row h' ba (ints aL') 1/\aL'.length=N/\((iB O K v far=K/\aL'=aL)\/(v∉O/\iB O K v far=bZ K v (some (far:Int))/\aL'=aL.set v arc)):=by
 have S:=Si ok
 have hA0:=hA.lt ok
 have l0:=R.load1 (o:=0) rfl
 have l4:=R.load1 (o:=4) rfl
 have l2:=R.load1 (o:=2) rfl
 have pp: ∃b,p=ptrTo b:=by obtain⟨b,_,_,e,_⟩:=H.ex;exact⟨b,e⟩
 obtain⟨bp,rfl⟩:=pp
 refine ab (n:=59) (rs:=[]) rfl Tryz.e174 rfl rfl rfl (lbt rfl) ?_
 simp only [BS,LB,Nat.reduceLT,Nat.reduceEqDiff,Tryz.FFf4174,l0]
 refine au (y9 S.ok H) ?_
 intro h g;replace S:=S.call g;clear g
 replace hc:h.get bc=some (.map es c):=S.gr.at hc
 have H1:=H.gr S.gr
 have lk:=jD (x:=(v:Int)) Xv XK (z:=.int .i64 0) (by kernel_rfl) hc MI
 rw [CF v]at lk
 replace l0:=S.old l0 (fun h=>h)
 replace l4:=S.old l4 (fun h=>h)
 replace l2:=S.old l2 (fun h=>h)
 replace hA:Row h ba (ints aL) 1:=hA.gr S.gr
 have R1:=R.gr S.gr
 have gg:=S.gr
 by_cases hO:v∈O
 . rw [if_pos hO,Xj]at lk
   simp only [BS,LB,Nat.reduceLT,Nat.reduceEqDiff,Int.reduceLT,Tryz.FFf4174,l4,lk]
   exact⟨gg.fr,F,aL,by unfold iB;rw [if_pos hO];exact H1,fun b hb=>.inl hb,hA,lA,.inl ⟨by unfold iB;rw [if_pos hO],rfl⟩⟩
 . rw [if_neg hO,XD]at lk
   have hba:=hA.lt gg.ok
   cases hk:K v with
   | none=>
     have rk:iB O K v far=bZ K v (some (far:Int)):=by unfold iB;rw [if_neg hO,hk]
     simp only [BS,LB,Nat.reduceLT,Nat.reduceEqDiff,Int.reduceLT,Tryz.FFf4174,l0,l4,lk,XD,Option.isSome_none]
     refine step_ret (oG gg.ok H1 hv hN hk) ?_
     rintro r h2 ⟨f2,F',H2,hF'⟩
     have ha2:Row h2 ba (ints aL) 1:=f2.has (o:=.row _ 1) hA d1
     have r2:Row h2 br [ptrTo bp,vD,.slice (some ⟨ba,0,none⟩) N N,vO,.map (some bc)] 1:=f2.has (o:=.row _ 1) R1 d2
     have l2':=r2.load1 (o:=2) rfl
     have S:=St.init1 f2.ok (o:=.row _ 1) ha2
     simp only [BS,LB,Nat.reduceLT,Nat.reduceEqDiff,Nat.reduceAdd,Tryz.FFf4174,l2',hv]
     refine aC (aI S (i:=0) rfl Xu bG (by rw [cN,lA];exact hv) ono) ?_
     clear S;rintro h3 ⟨S,mo⟩
     simp only [LC]at S
     rw [ints_set]at S
     simp only [BS]
     refine⟨(gg.fr.trans (f2.mono (fun c hc=>.inl hc)) (fun c hc=>.inl hc):Mo (fun c=>c∈F\/c=ba) h0 h2).trans mo (fun c hc=>.inl (.inr hc)),F',aL.set v arc,by rw [rk];exact H2.mo mo (fun b hb e=>by subst e;rcases hF' b hb with h|h;exact d1 h;omega),fun b hb=>(hF' b hb).imp (fun h=>h) (fun h=>zP gg.n h),S.row m0,by rw [Xs];exact lA,.inr ⟨hO,rk,rfl⟩⟩
   | some k=>
     by_cases hle:k<=(far:Int)
     . have rk:iB O K v far=K:=by unfold iB;rw [if_neg hO,hk];simp only [];rw [if_pos hle]
       simp only [BS,LB,Nat.reduceLT,Nat.reduceEqDiff,Int.reduceLT,Tryz.FFf4174,l4,lk,hle,Xj]
       exact⟨gg.fr,F,aL,by rw [rk];exact H1,fun b hb=>.inl hb,hA,lA,.inl ⟨rk,rfl⟩⟩
     . have rk:iB O K v far=bZ K v (some (far:Int)):=by unfold iB;rw [if_neg hO,hk];simp only [];rw [if_neg hle]
       simp only [BS,LB,Nat.reduceLT,Nat.reduceEqDiff,Int.reduceLT,Tryz.FFf4174,l0,l4,lk,hle,Xj]
       refine step_ret (pZ gg.ok H1 hN hk (by omega)) ?_
       rintro r h2 ⟨f2,H2⟩
       have ha2:Row h2 ba (ints aL) 1:=f2.has (o:=.row _ 1) hA d1
       have r2:Row h2 br [ptrTo bp,vD,.slice (some ⟨ba,0,none⟩) N N,vO,.map (some bc)] 1:=f2.has (o:=.row _ 1) R1 d2
       have l2':=r2.load1 (o:=2) rfl
       have S:=St.init1 f2.ok (o:=.row _ 1) ha2
       simp only [BS,LB,Nat.reduceLT,Nat.reduceEqDiff,Nat.reduceAdd,Tryz.FFf4174,l2',hv]
       refine aC (aI S (i:=0) rfl Xu bG (by rw [cN,lA];exact hv) ono) ?_
       clear S;rintro h3 ⟨S,mo⟩
       simp only [LC]at S
       rw [ints_set]at S
       simp only [BS]
       refine⟨(gg.fr.trans (f2.mono (fun c hc=>.inl hc)) (fun c hc=>.inl hc):Mo (fun c=>c∈F\/c=ba) h0 h2).trans mo (fun c hc=>.inl (.inr hc)),F,aL.set v arc,by rw [rk];exact H2.mo mo (fun b hb e=>by subst e;exact d1 hb),fun b hb=>.inl hb,S.row m0,by rw [Xs];exact lA,.inr ⟨hO,rk,rfl⟩⟩
open Tryz in
def Tryz.FFf5103:=aj Z1<|aj Z2<|aj Z0<|aj Z3<|aj Z7<|aj Z9<|aj Z14<|aj Z17<|aj Z19<|aj Z27<|aj Z40<|aj Z29<|aj Z37<|aj Z41<|aj Z47<|aj Z53<|aj Z39<|aj Z5<|aj Z6<|aj Z10<|aj Z4<|aj Z15<|aj Z25<|aj Z31<|aj Z8<|aj a101<|aj s101<|aj z101<|aj n101<|aj a102<|aj s102<|aj z102<|aj i102<|aj n102<|aj p102<|aj ff102<|aj d102<|aj Z12<|aj Z11<|aj Z26<|aj Z32<|aj Z16<|aj Z68<|aj Z54<|aj Z23<|aj Z83<|aj Z84<|aj a261<|aj s261<|aj z261<|aj n261<|aj Z55<|aj Z20<|aj Z24<|aj Z56<|aj Z48<|aj Z57<|aj Z58<|aj Z59<|aj Z60<|aj Z61<|aj Z62<|Z46
def seen(A:List Arc)(fs ft:Arc->Nat):List Arc:=A.map fun a=>⟨fs a,ft a,a.w⟩
def NextF(E:Env)(g:FuncId)(γ:Gra)(pn:Value)(fs:Arc->Nat):Prop:= ∀(h:Hp) (nb:Nat),h.t.Sized h.n->bN h nb pn γ-> ∀v,v<γ.nodes->Ret E g [pn,.int .i64 (v:Nat)] h fun r h'=>Gr h h'/\aA h' 1 cJ r (outs γ.arcs fs γ.arcs.length v)/\ ∀c,av r c->h.n<=c
def dA(l:List Nat):List Value:=l.flatMap cJ
theorem kk(l:List Nat):dA l=l.map fun(x:Nat)=>Value.int .i64 x:=by
 unfold dA;rw [zR,Xc,zR];rfl
theorem pz(l:List Int):ints l=l.map fun x=>Value.int .i64 x:=by
 unfold ints;rw [zR,Xc,zR];rfl
theorem j7(l:List Nat):(dA l).length=l.length:=by rw [kk,Xa]
theorem xk(l:List Nat)(x:Nat):dA (l++[x])=dA l++dA [x]:=by rw [kk,kk,kk,List.map_append]
theorem oL{A:List Arc}{fs ft:Arc->Nat}{i:Nat}(hi:i<A.length):(seen A fs ft).getD i default=⟨fs (A.getD i default),ft (A.getD i default),(A.getD i default).w⟩/\(seen A fs ft).getD i default∈seen A fs ft:=by
 have e:(seen A fs ft).getD i default=⟨fs (A.getD i default),ft (A.getD i default),(A.getD i default).w⟩:=by
  unfold seen;simp [zN,hi]
 refine⟨e,?_⟩
 rw [zN,zS (by unfold seen;simpa using hi)]
 exact Xi _
theorem w5{A:List Arc}{fs ft:Arc->Nat}{a:Arc}(ha:a∈seen A fs ft): ∃i,i<A.length/\(seen A fs ft).getD i default=a:=by
 obtain⟨i,hi,e⟩:=List.mem_iff_getElem.1 ha
 exact⟨i,by unfold seen at hi;simpa using hi,by simp [zN,hi,e]⟩
def sG(h':Hp)(m:Nat)(r:Value)(B:List Arc)(s N:Nat):Prop:= ∃vD vA vO D aL O,r=.agg ⟨[vD,vA,vO]⟩/\aA h' 1 cJ vD ((zQ N).map D)/\aA h' 1 (encI .i64) vA aL/\aA h' 1 cJ vO O/\aL.length=N/\(∀v,IsD B s v (D v))/\(∀c,av vD c\/av vA c\/av vO c->m<=c)/\O.Nodup/\ ∀v∈O,v<N
theorem rj{h0:Hp}(ok:h0.t.Sized h0.n){F:List Nat}{p:Value}{N:Nat}{K:Nat->Option Int}(H:bj h0 F p N K)(hN:N<=1000):Ret zM 162 [p] h0 fun r h'=> ∃(v:Nat) (k:Int) (b:Bool),r=.tuple #[.int .i64 (v:Nat),.int .i64 k,.bool b]/\Mo (· ∈F) h0 h'/\bj h' F p N (if b=true then bZ K v none else K)/\(b=true->K v=some k/\ ∀u k',K u=some k'->k<=k')/\(b=false-> ∀v,K v=none):=by
 refine py (th ok H hN) ?_
 rintro r h' (⟨rfl,h1,g⟩|⟨v,k,rfl,h1,h2,h3,h4⟩)
 . exact⟨0,0,false,rfl,g.fr,H.gr g,fun h=>(by cases h),fun _=>h1⟩
 . exact⟨v,k,true,rfl,h3,h4,fun _=>⟨h1,fun u k' h=>by have:=h2 u k' h;omega⟩,fun h=>(by cases h)⟩
def FloodI(h0:Hp)(B:List Arc)(s N b9 br bc ba bd b8 bP bp:Nat)(gN gE:FuncId)(O:List Nat)(ρ:Nat->Value)(d:List Deferred)(h:Hp):Prop:=
 ∃ (dbs:List Nat) (D:Nat->Nat) (K:Nat->Option Int) (F:List Nat) (es:List (Value×Value×Nat)) (c:Nat) (f:Int->Option Value) (aL:List Int) (vO:Value) (bk:Nat) (v:Nat) (key:Int) (b:Bool),d=dbs.map pE/\
   St NoM h0 h ([(bk,Ob.row [.int .i64 key] 1),(b9,.row [ptrTo br] 1),(br,.row [ptrTo bP,.slice (some ⟨bd,0,none⟩) N N,.slice (some ⟨ba,0,none⟩) N N,vO,.map (some bc)] 1),(bc,.map es c),(ba,.row (ints aL) 1),(bd,.row (dA ((zQ N).map D)) 1),(b8,.row [.slice none 0 0,.slice none 0 0,.slice none 0 0] 1)]++dT dbs) [(vO,1,dA O)]/\
   (∀c'∈F,h0.n<=c'/\c'∉keys ([(bk,Ob.row [.int .i64 key] 1),(b9,.row [ptrTo br] 1),(br,.row [ptrTo bP,.slice (some ⟨bd,0,none⟩) N N,.slice (some ⟨ba,0,none⟩) N N,vO,.map (some bc)] 1),(bc,.map es c),(ba,.row (ints aL) 1),(bd,.row (dA ((zQ N).map D)) 1),(b8,.row [.slice none 0 0,.slice none 0 0,.slice none 0 0] 1)]++dT dbs) [(vO,1,dA O)])/\
   aL.length=N/\cM es c f/\ClF O f/\Dj B s N O D K (fun _=>False)/\bj h F (ptrTo bP) N (if b=true then bZ K v none else K)/\(b=true->K v=some key/\ ∀u k',K u=some k'->key<=k')/\(b=false-> ∀v,K v=none)/\
   ρ 0=ptrTo bp/\ρ 2=.func (.func gN) #[ptrTo bp] #[]/\ρ 3=.func (.func gE) #[] #[]/\ρ 8=ptrTo b8/\ρ 9=ptrTo b9/\ρ 10=.int .i64 v/\ρ 11=ptrTo bk/\ρ 12=.bool b
theorem vg {h0:Hp} (ok:h0.t.Sized h0.n) {γ:Gra} (hγ:Good γ) {pn:Value} {nb:Nat} (hn:bN h0 nb pn γ) {s:Nat} (hs:s<γ.nodes) {gN gE:FuncId} {fs ft:Arc->Nat} (hN:NextF zM gN γ pn fs) (hE:KeyF zM gE ft) (hft: ∀a∈γ.arcs,ft a<γ.nodes):
 Ret zM 103 [pn,.int .i64 s,.func (.func gN) #[pn] #[],.func (.func gE) #[] #[]] h0 fun r h'=>Gr h0 h'/\sG h' h0.n r (seen γ.arcs fs ft) s γ.nodes:=by
 have n1:=hγ.n1
 have n2:=hγ.n2
 have S:=Si ok
 have c1: ¬((s:Int)<0):=by omega
 have c2: ¬((γ.nodes:Int)<=(s:Int)):=by omega
 obtain⟨bp,epn⟩: ∃b,pn=ptrTo b:=by obtain⟨b,_,_,_,_,_,e,_⟩:=hn.ex;exact⟨b,e⟩
 subst epn
 refine ab (n:=117) (rs:=[.cell 8 187]) rfl Tryz.e103 rfl rfl rfl (lbt rfl) ?_
 simp only [BS,Tryz.FFf5103]
 refine ag aF S ?_;clear S;intro h b8 S n_b8
 simp only [BS,LB,Nat.reduceLT,Nat.reduceEqDiff,Tryz.FFf5103,c1]
 refine au (dP S.ok (hn.gr S.gr)) ?_;intro h g;replace S:=S.call g;clear g
 simp only [BS,LB,Nat.reduceLT,Nat.reduceEqDiff,c2]
 refine au (dP S.ok (hn.gr S.gr)) ?_;intro h g;replace S:=S.call g;clear g
 simp only [BS,LB,Nat.reduceLT,Nat.reduceEqDiff]
 have nF:=S.fr.n
 have kF:=fun {c} (hc:c∈_)=>S.key_lt (b:=c) hc
 refine step_ret (sa S.ok) ?_;intro v h ⟨g,Fh,H,hFn⟩;replace S:=S.call g;clear g
 rename Value=>p
 have dF: ∀c∈Fh,c∉keys [(b8,Ob.row [.slice none 0 0,.slice none 0 0,.slice none 0 0] 1)] []:=fun c hc hm=>by have:=kF hm;have:=hFn c hc;omega
 have lF:=H.lt S.ok
 have S0:=S
 have gF: ∀c∈Fh,h0.n<=c\/NoM c:=fun c hc=>.inl (zP nF (hFn c hc))
 replace S:=S.base
 simp only [BS,LB]
 refine ag (cm (by exact XB) (by exact Tryz.e2E) (by decide) (by rfl)) S ?_;clear S;intro h bs1 S n_bs1;simp only [LC,aY,bM,an,Nat.reduceMul,Nat.reduceAdd,XE,XF,Xl,XJ]at S
 simp only [BS,LB,Nat.reduceLT,Nat.reduceEqDiff]
 refine au (dP S.ok (hn.gr (S0.rebase S).gr)) ?_;intro h g;replace S:=S.call g;clear g
 simp only [BS,LB,Nat.reduceLT,Nat.reduceEqDiff]
 have kl:=fun {c} (hc:c∈_)=>S.key_lt (b:=c) hc
 have kn:=S.fr.n
 refine step_ret (rep64_ok S.ok (x:=72057594037927936) (.inr ⟨bs1,0,none,1,rfl,Xn _,S.lds (b:=bs1) (o:=0) (n:=1*1) m0 (lbt rfl)⟩) n1 (by omega)) ?_;intro v h ⟨g,bd,ed,nd,Rd⟩;replace S:=S.call g;clear g
 subst ed
 replace S:=S.drop1
 replace S:=S.push (b:=bd) (o:=.row _ 1) (.inl (zP kn nd)) Rd (fun hm=>by have:=kl (Xb _ hm);omega)
 simp only [BS,LB]
 refine ag (cm (by exact Xp) (by exact XW) (by decide) (by rfl)) S ?_;clear S;intro h bs2 S n_bs2;simp only [LC,aY,bM,an,Nat.reduceMul,Nat.reduceAdd,XE,XF,Xl,XJ]at S
 simp only [BS,LB,Nat.reduceLT,Nat.reduceEqDiff]
 refine au (dP S.ok (hn.gr (S0.rebase S).gr)) ?_;intro h g;replace S:=S.call g;clear g
 simp only [BS,LB,Nat.reduceLT,Nat.reduceEqDiff]
 have kl2:=fun {c} (hc:c∈_)=>S.key_lt (b:=c) hc
 have kn2:=S.fr.n
 refine step_ret (repI_ok S.ok (x:= -1) (.inr ⟨bs2,0,none,1,rfl,Xn _,S.lds (b:=bs2) (o:=0) (n:=1*1) m0 (lbt rfl)⟩) n1 (by omega)) ?_;intro v h ⟨g,ba,ea,na,Ra⟩;replace S:=S.call g;clear g
 subst ea
 replace S:=S.drop1
 replace S:=S.push (b:=ba) (o:=.row _ 1) (.inl (zP kn2 na)) Ra (fun hm=>by have:=kl2 (Xb _ hm);omega)
 have pp: ∃b,p=ptrTo b:=by obtain⟨b,_,_,e,_⟩:=H.ex;exact⟨b,e⟩
 obtain⟨bP,rfl⟩:=pp
 simp only [BS,LB,Nat.reduceLT,Nat.reduceEqDiff,Nat.reduceAdd,Tryz.FFf5103]
 refine ag mS S ?_;clear S;intro h bc S n_bc
 simp only [BS,LB,Nat.reduceLT,Nat.reduceEqDiff,Nat.reduceAdd,Nat.reduceLeDiff,Tryz.FFf5103]
 refine ag (aZ (by intro x e;cases e)) S ?_;clear S;intro h br S n_br;simp only [an]at S
 simp only [BS,Tryz.FFf5103]
 refine ag aF S ?_;clear S;intro h b9 S n_b9
 simp only [BS,LB,Nat.reduceLT,Nat.reduceEqDiff]
 refine aC (aI S (i:=0) rfl ?_ ?_ ?_ ono) ?_
 . exact(by simp only [Tryz.FFf5103])
 . exact(by exact dX)
 . exact zY (lbt rfl)
 clear S;rintro h ⟨S,mo⟩;clear mo;simp only [LC,an,lay,Xe,Xf,Nat.reduceAdd]at S
 simp only [BS,LB,Nat.reduceLT,Nat.reduceEqDiff,Tryz.FFf5103,S.ld (b:=b9) (o:=0) m0 rfl,S.ld (b:=br) (o:=0) m1 rfl]
 have d8: ∀c∈Fh,c≠b8:=fun c hc e=>dF c hc (by rw [e];simp [keys])
 have nd':=zP kn nd
 have na':=zP kn2 na
 clear kl kl2 kF kn nd kn2 na Ra Rd
 have HA:=H.mo S.fr dF
 have dis: ∀c∈Fh,c≠b9/\c≠br/\c≠bc/\c≠ba/\c≠bd/\c≠b8:=fun c hc=>by have:=lF c hc;have:=d8 c hc;omega
 replace S:=S0.rebase S
 clear S0 dF lF d8 H n_bs1 n_bs2
 have T:=S.baseF Fh
 have nh:=S.fr.n
 have hF1: ∀L,(∀c∈keys L [],c=b9\/c=br\/c=bc\/c=ba\/c=bd\/c=b8)-> ∀c∈Fh,c∉keys L []:=fun L hL c hc hm=>by
  have:=dis c hc
  have:=hL c hm
  omega
 have ps:Ret zM 160 [ptrTo bP,.int .i64 (s:Nat),.int .i64 0] h _:=oG S.ok HA hs (by omega) rfl
 refine step_ret ps ?_
 rintro r h1 ⟨f1,F1,H1,hF'⟩
 replace S:=S.rebaseF gF (T.stepF f1 (fun c hc=>⟨.inl (.inr hc),hF1 _ (fun c hc=>by simpa [keys]using hc) c hc⟩))
 have hF1': ∀c∈F1,h0.n<=c/\c∉keys [(b9,Ob.row [ptrTo br] 1),(br,.row [ptrTo bP,.slice (some ⟨bd,0,none⟩) γ.nodes γ.nodes,.slice (some ⟨ba,0,none⟩) γ.nodes γ.nodes,.slice none 0 0,.map (some bc)] 1),(bc,.map [] 0),(ba,.row (zO γ.nodes (.int .i64 (-1))) 1),(bd,.row (zO γ.nodes (.int .i64 72057594037927936)) 1),(b8,.row [.slice none 0 0,.slice none 0 0,.slice none 0 0] 1)] []:=fun c hc=>by
  rcases hF' c hc with h2|h2
  . exact⟨(gF c h2).elim (fun h=>h) (fun h=>h.elim),hF1 _ (fun c hc=>by simpa [keys]using hc) c h2⟩
  . refine⟨zP nh h2,fun hm=>?_⟩
    have:=T.key_lt (b:=c) (by simpa [keys]using hm)
    omega
 clear T hF1 dis hFn gF nF hF' HA f1
 replace S:=S.nilG (k:=1)
 have dj:=dj_init (B:=seen γ.arcs fs ft) hs
 have lF1:=H1.lt S.ok
 have S1:=S
 replace S:=S.baseF F1
 simp only [BS,LB,Nat.reduceLT,Nat.reduceEqDiff,Tryz.FFf5103,S.ld (b:=b9) (o:=0) m0 rfl,S.ld (b:=br) (o:=0) m1 rfl]
 refine step_ret (rj S.ok H1 (by omega)) ?_
 rintro r h2 ⟨v,k,b,rfl,f2,H2,hb1,hb2⟩
 replace S:=S.stepF f2 (fun c hc=>⟨.inl (.inr hc),fun hm=>(hF1' c hc).2 (by simpa [keys,dN]using hm)⟩)
 simp only [BS,LB,Nat.reduceLT,Nat.reduceEqDiff,Tryz.FFf5103]
 have S2:=S
 replace S:=S.base
 refine ag aF S ?_;clear S;intro h bk S n_bk
 simp only [BS,LB,Nat.reduceLT,Nat.reduceEqDiff]
 refine aC (aI S (i:=0) rfl ?_ ?_ ?_ ono) ?_
 . exact(by simp only [Tryz.FFf5103])
 . exact(by exact bG)
 . exact zY (lbt rfl)
 clear S;rintro h ⟨S,mo⟩;clear mo;simp only [LC,an,lay,Xe,Xf,Nat.reduceAdd]at S
 simp only [BS,LB,Nat.reduceLT,Nat.reduceEqDiff]
 have H3:=H2.mo S.fr (fun c hc hm=>(hF1' c hc).2 (by simpa [keys,dN]using hm))
 refine pY (FloodI h0 (seen γ.arcs fs ft) s γ.nodes b9 br bc ba bd b8 bP bp gN gE) (fun O=>γ.nodes-O.length) ?_ [] _ _ _ ?_
 . clear S S1 S2 H3 hb1 hb2 H2 f2 H1 dj hF1' lF1 ps
   intro O ih ρ d hS ⟨dbs,D,K,F,es,c,f,aL,vO,bk,v,key,b,hd,S0,hF,lA,MI,CF,dj,H,hb1,hb2,r0,r2,r3,r8,r9,r10,r11,r12⟩
   simp only [List.cons_append,List.nil_append]at S0 hF
   have S:=S0.base
   cases b with
   | false=>
     simp only [BS,LB,Nat.reduceLT,Nat.reduceEqDiff,Tryz.FFf5103,r8,r9,r12,S.ld (b:=b9) (o:=0) m1 rfl,S.lds (b:=br) (o:=1) (n:=3) m2 (lbt rfl)]
     have fvO:Fl vO:=by
      rcases(S0.gown _ m0).1 with⟨e,_⟩|⟨_,_,e,_⟩
      . rw [show vO=_ from e];exact bL
      . rw [show vO=_ from e];exact bL
     refine aC (S.store (i:=6) rfl Xw (by intro x e;cases e) rfl (by simp only [an,List.drop_succ_cons,Xh,List.take_succ_cons,List.take_zero,XM,XS,fvO.2.1,Xd];rfl) (lbt rfl) ono) ?_
     clear S;rintro h ⟨S,_⟩
     simp only [LC,an,lay,Xe,Xf,Nat.reduceAdd]at S
     simp only [BS]
     replace S:=(S0.rebase S).permL (L':=dT dbs++[(bk,_),(b9,_),(br,_),(bc,_),(ba,_),(bd,_),(b8,_)]) List.perm_append_comm
     subst hd
     refine ff (kw dbs _ S fun h' S'=>?_)
     have lT:=S'.lds (b:=b8) (o:=0) (n:=3) m6 (lbt rfl)
     refine⟨rfl,_,qP (by decide) (by simp only [aS,r8,ae,Nat.reduceEqDiff,reduceIte];exact cw Tryz.a187 Xw lT),S'.gr,?_⟩
     refine⟨_,_,_,D,aL,O,rfl,?_,?_,?_,lA,dj.done (hb2 rfl) n2,?_,dj.nd,dj.lt⟩
     . refine .inr ⟨bd,0,none,γ.nodes,by rw [Xa,Xm],by rw [Xa,Xm];exact Xn _,?_⟩
       have:=(S'.row (b:=bd) m5).load (o:=0) (n:=((zQ γ.nodes).map D).length*1) (by rw [j7];omega)
       rw [this,Xh,Xo (by rw [j7];omega)];rfl
     . refine .inr ⟨ba,0,none,γ.nodes,by rw [lA],by rw [lA];exact Xn _,?_⟩
       have:=(S'.row (b:=ba) m4).load (o:=0) (n:=aL.length*1) (by rw [cN];omega)
       rw [this,Xh,Xo (by rw [cN];omega)];rfl
     . exact(S'.gown _ m0).1.sl rfl ii (by decide)
     . rintro c (h|h|h)
       . have h:bd=c:=h
         subst h;exact((S'.own _ m5).1).elim (fun h=>h) (fun h=>h.elim)
       . have h:ba=c:=h
         subst h;exact((S'.own _ m4).1).elim (fun h=>h) (fun h=>h.elim)
       . exact((S'.gblk m0 h).1).elim (fun h=>h) (fun h=>h.elim)
   | true =>
     simp only [if_true]at H
     obtain⟨hk,hmin⟩:=hb1 rfl
     obtain⟨_,n,rfl,_,_⟩:=dj.i3 v key hk
     obtain⟨dj2,hvO,hvN,hnb⟩:=dj.pop hk hmin
     have lk:=jD (x:=(v:Int)) Xv XK (z:=.int .i64 0) (by kernel_rfl) (show hS.get bc=some (.map es c)from(S.own _ m3).2) MI
     rw [CF v,if_neg hvO,XD]at lk
     have w1:aq .i64 1=1:=rfl
     simp only [BS,LB,Nat.reduceLT,Nat.reduceEqDiff,Int.reduceAdd,Tryz.FFf5103,r9,r10,r12,lk,w1,S.ld (b:=b9) (o:=0) m1 rfl,S.ld (b:=br) (o:=4) m2 rfl]
     refine aC (S.mputI (i:=3) rfl Xv XK MI _) ?_
     clear S;rintro h ⟨_,es',c',MI',S⟩
     simp only [LC]at S
     simp only [BS]
     refine aD (aM rfl) (q:=0) (ps:=[]) (by kernel_rfl) ?_
     simp only [BS,LB,cls,Nat.reduceLT,Nat.reduceEqDiff,Nat.reduceAdd,Nat.reducePow,Nat.reduceDiv,Nat.reduceMod,Nat.reduceLeDiff,Tryz.FFf5103,r9,r10,r11,hvN,S.ld (b:=b9) (o:=0) m1 rfl,S.ld (b:=br) (o:=1) m2 rfl,S.ld (b:=bk) (o:=0) m0 rfl]
     refine dK (aI S (i:=5) rfl XU bG (by rw [j7,Xa,Xm];exact hvN) ono) ?_
     clear S;rintro h ⟨S,_⟩
     simp only [LC]at S
     have eD:(dA ((zQ γ.nodes).map D)).set v (.int .i64 (n:Nat))=dA ((zQ γ.nodes).map fun u=>if u=v then n else D u):=by
      rw [kk,kk,XT,XT]
      have:=j5 (N:=γ.nodes) (k:=v) (F:=(fun(x:Nat)=>Value.int .i64 x)∘D) (F':=(fun(x:Nat)=>Value.int .i64 x)∘fun u=>if u=v then n else D u) (fun u _ hu=>by simp [hu])
      rw [<-this];simp
     rw [eD]at S
     simp only [BS,LB,Nat.reduceAdd]
     refine aD (aM rfl) (q:=128) (ps:=[(0,8)]) (by kernel_rfl) ?_
     simp only [BS,LB,cls,Nat.reduceLT,Nat.reduceEqDiff,Nat.reduceAdd,Nat.reducePow,Nat.reduceDiv,Nat.reduceMod,Nat.reduceLeDiff,Tryz.FFf5103,r9,r10,S.ld (b:=b9) (o:=0) m1 rfl,S.ld (b:=br) (o:=3) m2 rfl]
     refine dC (cm (by exact Xp) (by exact XW) (by decide) (by rfl)) S ?_;clear S;intro h bs S n_bs e_bs;simp only [LC,aY,bM,an,Nat.reduceMul,Nat.reduceAdd,XE,XF,Xl,XJ]at S
     simp only [BS,LB,cls,Nat.reduceLT,Nat.reduceEqDiff,Nat.reduceAdd,Nat.reducePow,Nat.reduceDiv,Nat.reduceMod,Nat.reduceLeDiff]
     have src:aO h 1 (.slice (some ⟨bs,0,none⟩) 1 1)=some (1,dA [v]):=by simp only [aO];rw [S.lds (b:=bs) (o:=0) (n:=1*1) m0 (lbt rfl)];rfl
     replace S:=S.drop1
     refine jK (S.grow (j:=0) (m:=1) (new:=dA [v]) rfl Xp XW (by decide) Tryz.n33 src rfl (by decide) rfl (by rw [j7,j7];have:=dj.len;simp;omega)) ?_
     clear S src;rintro h vO' S
     simp only [LC,<-xk]at S
     have fvO:Fl vO':=by
      rcases(S.gown _ m0).1 with⟨e,_⟩|⟨_,_,e,_⟩
      . rw [show vO'=_ from e];exact bL
      . rw [show vO'=_ from e];exact bL
     simp only [BS,LB,cls,Nat.reduceLT,Nat.reduceEqDiff,Nat.reduceAdd,Nat.reducePow,Nat.reduceDiv,Nat.reduceMod,Nat.reduceLeDiff,Tryz.FFf5103]
     refine dK (aI S (i:=2) rfl Tryz.s33 fvO (zY (lbt rfl)) ono) ?_
     clear S;rintro h ⟨S,_⟩
     simp only [LC]at S
     simp only [BS,LB,Nat.reduceLT,Nat.reduceEqDiff,Nat.reduceAdd,r0,r2,r10]
     have pv:vO=.slice none 0 0\/ ∃c n,vO=.slice (some ⟨c,0,some 1⟩) n n/\c≠b9:=by
      rcases(S0.gown _ m0).1 with⟨e,_⟩|⟨c,n,e,_⟩
      . exact .inl e
      . refine .inr ⟨c,n,e,fun h=>?_⟩
        exact(S0.gblk (c:=c) m0 (by rw [show vO=_ from e];rfl)).2 (by subst h;exact List.mem_map_of_mem (f:=Prod.fst) m1)
     refine⟨?_,?_⟩
     . clear ih
       rcases pv with rfl|⟨cO,nO,rfl,hne⟩
       . simp only [bH,bO,bg,bV,bD,ne_eq,not_false_eq_true,bU,cu,bJ,bF,cB,dt,aS,Nat.reduceLT,Nat.reduceEqDiff,reduceIte,Xd,r9,ae,wC,noteSl,pair_x,entry_nl,mK]
       . simp only [bH,bO,bg,bV,bD,ne_eq,not_false_eq_true,bU,cu,bJ,bF,cB,dt,aS,Nat.reduceLT,Nat.reduceEqDiff,reduceIte,Xd,r9,ae,wC,noteSl,m8 hne,m8 hne.symm]
     have kO: ∀c∈keys ((bk,Ob.row [.int .i64 (n:Nat)] 1)::(b9,.row [ptrTo br] 1)::(br,.row [ptrTo bP,.slice (some ⟨bd,0,none⟩) γ.nodes γ.nodes,.slice (some ⟨ba,0,none⟩) γ.nodes γ.nodes,vO,.map (some bc)] 1)::(bc,.map es c)::(ba,.row (ints aL) 1)::(bd,.row (dA ((zQ γ.nodes).map D)) 1)::(b8,.row [.slice none 0 0,.slice none 0 0,.slice none 0 0] 1)::dT dbs) [(vO,1,dA O)],c<hS.n:=fun c hc=>S0.key_lt hc
     have kS:=fun {c} hc=>S.key_lt (b:=c) hc
     have ge0:=(S0.rebase S).gr.n
     refine step_ret (hN _ nb S.ok (hn.gr (S0.rebase S).gr) v hvN) ?_
     rintro vl h ⟨g,sl,hcl⟩
     have kn:=S.fr.n
     have gn:=g.n
     replace S:=S.call g;clear g
     simp only [BS,LB,Nat.reduceLT,Nat.reduceEqDiff,r3]
     have kn2:=S.fr.n
     have lvl:=fun {c} hc=>sl.lt S.ok (b:=c) hc
     refine step_ret (arcs_ok' S.ok dX sl.fl iq) ?_;intro v h ⟨g,b1,b2,b3,e,q1,q2,q3,y1,y2,y3⟩;replace S:=S.call g;replace sl:=sl.gr g;clear g
     subst e
     simp only [BS]
     have hH:=H.mo S.fr (fun c hc hm=>(hF c hc).2 hm)
     have lFS:=H.lt S0.ok
     refine kA S (g:=215) (a:=#[]) (b:=#[ptrTo b1,ptrTo b2,ptrTo b3]) (by simp [cB,aa,ae]) rfl rfl ?_
     intro h2 db lb S' hdb hlb g2
     have R1:=S0.rebase S'
     obtain⟨X,hX,R1⟩: ∃X:fF,X=_/\St NoM h0 h2 ((lb,.loop X)::(db,.dfr)::(bk,Ob.row [.int .i64 (n:Nat)] 1)::(b9,.row [ptrTo br] 1)::(br,.row [ptrTo bP,.slice (some ⟨bd,0,none⟩) γ.nodes γ.nodes,.slice (some ⟨ba,0,none⟩) γ.nodes γ.nodes,vO',.map (some bc)] 1)::(bc,.map es' c')::(ba,.row (ints aL) 1)::(bd,.row (dA ((zQ γ.nodes).map fun u=>if u=v then n else D u)) 1)::(b8,.row [.slice none 0 0,.slice none 0 0,.slice none 0 0] 1)::dT dbs) [(vO',1,dA (O++[v]))]:=⟨_,rfl,R1⟩
     have CF':ClF (O++[v]) (c8 f (v:Int) (some (.int .i64 1))):=fun u=>by
      unfold c8
      by_cases e:u=v
      . subst e;simp
      . have e': ¬((u:Int)=(v:Int)):=by omega
        rw [if_neg e',CF u]
        simp [e]
     have hJ :Yld zM lb (fun k h' F'=> ∃K' Fh aL',St NoM h0 h' ((lb,.loop X)::(db,.dfr)::(bk,Ob.row [.int .i64 (n:Nat)] 1)::(b9,.row [ptrTo br] 1)::(br,.row [ptrTo bP,.slice (some ⟨bd,0,none⟩) γ.nodes γ.nodes,.slice (some ⟨ba,0,none⟩) γ.nodes γ.nodes,vO',.map (some bc)] 1)::(bc,.map es' c')::(ba,.row (ints aL') 1)::(bd,.row (dA ((zQ γ.nodes).map fun u=>if u=v then n else D u)) 1)::(b8,.row [.slice none 0 0,.slice none 0 0,.slice none 0 0] 1)::dT dbs) [(vO',1,dA (O++[v]))]/\
      bj h' Fh (ptrTo bP) γ.nodes K'/\(∀c∈Fh,h0.n<=c/\c∉keys ((lb,.loop X)::(db,.dfr)::(bk,Ob.row [.int .i64 (n:Nat)] 1)::(b9,.row [ptrTo br] 1)::(br,.row [ptrTo bP,.slice (some ⟨bd,0,none⟩) γ.nodes γ.nodes,.slice (some ⟨ba,0,none⟩) γ.nodes γ.nodes,vO',.map (some bc)] 1)::(bc,.map es' c')::(ba,.row (ints aL') 1)::(bd,.row (dA ((zQ γ.nodes).map fun u=>if u=v then n else D u)) 1)::(b8,.row [.slice none 0 0,.slice none 0 0,.slice none 0 0] 1)::dT dbs) [(vO',1,dA (O++[v]))])/\
      aL'.length=γ.nodes/\Dj (seen γ.arcs fs ft) s γ.nodes (O++[v]) (fun u=>if u=v then n else D u) K' (fun a=> ∃id∈(outs γ.arcs fs γ.arcs.length v).drop k,(seen γ.arcs fs ft).getD id default=a)/\
      F'=keys ((lb,.loop X)::(db,.dfr)::(bk,Ob.row [.int .i64 (n:Nat)] 1)::(b9,.row [ptrTo br] 1)::(br,.row [ptrTo bP,.slice (some ⟨bd,0,none⟩) γ.nodes γ.nodes,.slice (some ⟨ba,0,none⟩) γ.nodes γ.nodes,vO',.map (some bc)] 1)::(bc,.map es' c')::(ba,.row (ints aL') 1)::(bd,.row (dA ((zQ γ.nodes).map fun u=>if u=v then n else D u)) 1)::(b8,.row [.slice none 0 0,.slice none 0 0,.slice none 0 0] 1)::dT dbs) [(vO',1,dA (O++[v]))]++Fh) (fun _ _=>False) (mJ γ.arcs ft (outs γ.arcs fs γ.arcs.length v)):=by
      clear ih S' R1 y1 y2 y3 hH S g2 H hF sl
      refine⟨?_,?_,fun _ _ h=>h.elim,?_⟩
      . rintro k h F' ⟨K',Fh,aL',S,H,hF,_,_,rfl⟩
        exact⟨S.ok,fun b hb=>(List.mem_append.1 hb).elim (fun hb=>S.key_lt hb) (fun hb=>H.lt S.ok b hb)⟩
      . rintro k h F' h' ⟨K',Fh,aL',S,H,q⟩ g
        exact⟨K',Fh,aL',S.call g,H.gr g,q⟩
      . rintro k x h F' hx ⟨K',Fh,aL',S,H,hF,lA',dj',rfl⟩
        have hkl:k<(outs γ.arcs fs γ.arcs.length v).length:=by
         have:=(List.getElem?_eq_some_iff.1 hx).1
         simpa [mJ]using this
        unfold mJ at hx
        rw [Xy,zS hkl]at hx
        cases hx
        have hm:=ki.1 (Xi hkl)
        rw [List.drop_eq_getElem_cons hkl]at dj'
        generalize(outs γ.arcs fs γ.arcs.length v)[k]=id at hm dj'
        obtain⟨hid,hfs⟩:=hm
        subst hX
        refine kB (S.get m0) (by rw [Tryz.e103];rfl) rfl ?_
        have S1:=S
        replace S:=S.base
        simp only [BS,LB,Nat.reduceLT,Nat.reduceEqDiff,Tryz.FFf5103]
        refine ag aF S ?_;clear S;intro h b14 S n_b14
        simp only [BS,LB,Nat.reduceLT,Nat.reduceEqDiff,zU,cy]
        refine aC (S.store (i:=0) rfl ?_ ?_ rfl rfl ?_ ono) ?_
        . exact(by exact Tryz.s87)
        . exact(by intro x e;cases e)
        . exact lbt rfl
        clear S;rintro h ⟨S,mo⟩;clear mo;simp only [LC,an,lay,Xe,Xf,Nat.reduceAdd]at S
        simp only [BS]
        refine jG S (i:=1) rfl rfl rfl rfl rfl ?_
        clear S;intro h S
        simp only [LC]at S
        have amem:γ.arcs.getD id default∈γ.arcs:=by rw [zN,zS hid];exact Xi hid
        have aok:=hγ.arcs _ amem
        have hol:O.length*bz<=12*bz:=Xk _ (zP dj.len n2)
        have wmax:=kD
        have wn:aq .i64 ((n:Int)+((γ.arcs.getD id default).w:Int))=((n+(γ.arcs.getD id default).w:Nat):Int):=by rw [wrap64]<;>omega
        simp only [BS,LB,Nat.reduceLT,Nat.reduceEqDiff,Tryz.FFf5103,r9,r11,wn,S.ld (b:=b9) (o:=0) m4 rfl,S.ld (b:=b14) (o:=1) m0 rfl,S.ld (b:=b14) (o:=2) m0 rfl,S.ld (b:=bk) (o:=0) m3 rfl]
        have hH:=H.mo S.fr (fun c hc hm=>(hF c hc).2 hm)
        have lF2:=H.lt S1.ok
        have d3:br≠ba:=fun e=>by
         have ap:=S1.apart
         subst e
         simp only [keys,XN,List.cons_append,List.nodup_cons,List.mem_cons]at ap
         exact ap.2.2.2.2.1 (.inr (.inl trivial))
        replace S:=S.mono (M':=fun c=>c∈keys _ _\/c∈Fh) (fun _ h=>.inl h)
        refine step_ret (reach_ok S.ok (arc:=id) (far:=n+(γ.arcs.getD id default).w) (S.row m5) hH (by omega) (S.own _ m6).2 MI' CF' (S.row m7) lA' (hft _ amem) (fun h=>(hF ba h).2 (by simp [keys])) (fun h=>(hF br h).2 (by simp [keys])) d3) ?_
        rintro r h ⟨f1,F2,aL2,H2,hF2,hA2,lA2,rel⟩
        have kq:=fun {c} hc=>S.key_lt (b:=c) hc
        have qn:=S.fr.n
        have S2:=S.callF (i:=7) (Fh:=Fh) rfl f1 (fun c hc=>⟨.inl (.inr hc),fun hm=>by
         rcases List.mem_cons.1 hm with e|hm
         . have:=lF2 c hc;omega
         . exact(hF c hc).2 hm⟩) (o':=.row _ 1) hA2
        simp only [List.set_cons_zero,List.set_cons_succ]at S2
        clear S
        simp only [BS]
        have S:=S2.base
        refine gK S (i:=1) rfl ?_
        clear S;intro h S
        simp only [LC]at S
        have H3:=H2.mo S.fr (fun c hc hm=>by
         rcases hF2 c hc with h1|h1
         . rcases List.mem_cons.1 hm with e|hm
           . have:=lF2 c h1;omega
           . exact(hF c h1).2 hm
         . have:=kq hm;omega)
        have S3:=S2.rebase S
        refine .inl ⟨rfl,_,⟨_,F2,aL2,S1.rebaseF (fun c hc=>.inl (hF c hc).1) S3.drop1,H3,fun c hc=>?_,lA2,?_,rfl⟩,S3.fr.mono (fun c hc=>List.mem_append.2 hc),fun c hc=>?_⟩
        . rcases hF2 c hc with h1|h1
          . exact hF c h1
          . refine⟨zP S1.fr.n (zP qn h1),fun hm=>?_⟩
            have:=kq (Xb _ hm)
            omega
        . obtain⟨e1,e2⟩:=oL (fs:=fs) (ft:=ft) hid
          have:=dj'.relaxed (ex':=fun a=> ∃id'∈(outs γ.arcs fs γ.arcs.length v).drop (k+1),(seen γ.arcs fs ft).getD id' default=a) e2 (by rw [e1];show fs _∈_;rw [hfs];simp) (by rw [e1];exact hft _ amem) (by rw [e1];simp only [hfs,if_true];rw [zZ,Xr,XR];omega) (fun b hb hx=>by
           by_cases eb:b=(seen γ.arcs fs ft).getD id default
           . exact .inr eb
           . left
             rintro⟨i,hi,rfl⟩
             rcases List.mem_cons.1 hi with e|hi
             . subst e;exact eb rfl
             . exact hx ⟨i,hi,rfl⟩)
          simp only [e1,hfs,if_true]at this
          exact this
        . rcases List.mem_append.1 hc with hc|hc
          . exact .inl (zV _ hc)
          . rcases hF2 c hc with h1|h1
            . exact .inl (zW _ h1)
            . exact .inr (zP qn h1)
     have hkeep:=(S0.rebase S).gr
     have hol2:=jY γ.arcs fs γ.arcs.length v
     have hgm:=hγ.many
     refine eY (iter_useN (arcs_it (hq:=h0) ok S.ok hkeep.keep hkeep.n hn sl (fun id hid=>(ki.1 hid).1) (by omega) hE y1 y2 y3) (fun _ _ h=>h) hJ (h:=h2) (F:=keys ((lb,.loop X)::(db,.dfr)::(bk,Ob.row [.int .i64 (n:Nat)] 1)::(b9,.row [ptrTo br] 1)::(br,.row [ptrTo bP,.slice (some ⟨bd,0,none⟩) γ.nodes γ.nodes,.slice (some ⟨ba,0,none⟩) γ.nodes γ.nodes,vO',.map (some bc)] 1)::(bc,.map es' c')::(ba,.row (ints aL) 1)::(bd,.row (dA ((zQ γ.nodes).map fun u=>if u=v then n else D u)) 1)::(b8,.row [.slice none 0 0,.slice none 0 0,.slice none 0 0] 1)::dT dbs) [(vO',1,dA (O++[v]))]++F) g2.fr (fun b hb hlt=>?_)
      ⟨bZ K v none,F,aL,R1,hH.gr g2,fun c hc=>⟨(hF c hc).1,fun hm=>?_⟩,lA,dj2.exm (fun a ha hs=>?_),rfl⟩) fun o rc h' y=>oq y ?_
     . rcases List.mem_append.1 hb with hb'|hb'
       . have k2:=(R1.key_own hb').elim (fun h=>h) (fun h=>h.elim)
         rcases List.mem_cons.1 hb' with e|hb'
         . simp only []at e;omega
         . rcases List.mem_cons.1 hb' with e|hb'
           . simp only []at e;omega
           . have k1:=kS hb'
             rintro(h|h|h|h|h)
             . omega
             . omega
             . omega
             . have:=hcl b h;omega
             . omega
       . have k1:=lFS b hb'
         have k2:=(hF b hb').1
         rintro(h|h|h|h|h)
         . omega
         . omega
         . omega
         . have:=hcl b h;omega
         . omega
     . have k1:=lFS c hc
       have knh:=S.fr.n
       rcases List.mem_cons.1 hm with e|hm
       . simp only []at e;omega
       . rcases List.mem_cons.1 hm with e|hm
         . simp only []at e;omega
         . rcases S.key_own hm with h1|h1
           . omega
           . exact(hF c hc).2 h1
     . obtain⟨i,hi,e⟩:=w5 ha
       refine⟨i,?_,e⟩
       rw [Xh]
       refine ki.2 ⟨hi,?_⟩
       have:=(oL (fs:=fs) (ft:=ft) hi).1
       rw [e]at this
       rw [this]at hs
       exact hs
     . rintro Fx ⟨K',Fh',aL',T,H',hF',lA',dj',rfl⟩
       clear hJ R1 y1 y2 y3 hH S' S
       rw [show(mJ γ.arcs ft (outs γ.arcs fs γ.arcs.length v)).length=(outs γ.arcs fs γ.arcs.length v).length by simp [mJ],List.drop_length]at dj'
       replace dj':=dj'.exm (ex':=fun _=>False) (fun a _ h=>by obtain⟨i,hi,_⟩:=h;cases hi)
       subst hX
       refine⟨_,T.get m0,Nat.zero_ne_one,?_⟩
       have hF2: ∀c∈Fh',c≠lb:=fun c hc e=>(hF' c hc).2 (by rw [e];exact m0)
       have H2:=H'.mo ((Mo.refl (M:=(· =lb)) T.ok).put (.inr rfl) .dead) hF2
       replace T:=T.dead
       replace hF':=fun c hc=>And.intro (hF' c hc).1 (fun hm=>(hF' c hc).2 (Xb _ hm))
       have S:=T.base
       show Run _ _ _ _ _ _ _ _
       simp only [BS,Nat.reduceLT,Nat.reduceEqDiff,if_false,Tryz.FFf5103,r11,S.ld (b:=bk) (o:=0) m1 rfl]
       refine ag aF S ?_;clear S;intro h bk2 S n_bk2
       simp only [BS,LB,Nat.reduceLT,Nat.reduceEqDiff,r11]
       refine aC (aI S (i:=0) rfl ?_ ?_ ?_ ono) ?_
       . exact(by simp only [Tryz.FFf5103])
       . exact(by exact bG)
       . exact zY (lbt rfl)
       clear S;rintro h ⟨S,mo⟩;clear mo;simp only [LC,an,lay,Xe,Xf,Nat.reduceAdd]at S
       simp only [BS,LB,Nat.reduceLT,Nat.reduceEqDiff,Tryz.FFf5103,r9,S.ld (b:=b9) (o:=0) m3 rfl,S.ld (b:=br) (o:=0) m4 rfl]
       have H3:=H2.mo S.fr (fun c hc hm=>(hF' c hc).2 hm)
       have lF3:=H2.lt T.ok
       have hF3: ∀c∈Fh',h0.n<=c/\c∉keys ([(bk2,Ob.row [.int .i64 (n:Nat)] 1),(b9,.row [ptrTo br] 1),(br,.row [ptrTo bP,.slice (some ⟨bd,0,none⟩) γ.nodes γ.nodes,.slice (some ⟨ba,0,none⟩) γ.nodes γ.nodes,vO',.map (some bc)] 1),(bc,.map es' c'),(ba,.row (ints aL') 1),(bd,.row (dA ((zQ γ.nodes).map fun u=>if u=v then n else D u)) 1),(b8,.row [.slice none 0 0,.slice none 0 0,.slice none 0 0] 1)]++dT (db::dbs)) [(vO',1,dA (O++[v]))]:=fun c hc=>by
        refine⟨(hF' c hc).1,fun hm=>?_⟩
        have h1:=(hF' c hc).2
        have h2:=lF3 c hc
        simp [keys,dT]at hm
        rcases hm with h|h|h|h|h|h|h|h|h|h
        . omega
        all_goals exact h1 (by simp [keys,dT,h])
       replace S:=(T.rebase S).sub (L':=(bk2,Ob.row [.int .i64 (n:Nat)] 1)::(db,.dfr)::(b9,.row [ptrTo br] 1)::(br,.row [ptrTo bP,.slice (some ⟨bd,0,none⟩) γ.nodes γ.nodes,.slice (some ⟨ba,0,none⟩) γ.nodes γ.nodes,vO',.map (some bc)] 1)::(bc,.map es' c')::(ba,.row (ints aL') 1)::(bd,.row (dA ((zQ γ.nodes).map fun u=>if u=v then n else D u)) 1)::(b8,.row [.slice none 0 0,.slice none 0 0,.slice none 0 0] 1)::dT dbs) (G':=[(vO',1,dA (O++[v]))]) (.cons_cons _ (.cons_cons _ (List.sublist_cons_self _ _))) (List.Sublist.refl _)
       replace S:=S.permL (L':=[(bk2,Ob.row [.int .i64 (n:Nat)] 1),(b9,.row [ptrTo br] 1),(br,.row [ptrTo bP,.slice (some ⟨bd,0,none⟩) γ.nodes γ.nodes,.slice (some ⟨ba,0,none⟩) γ.nodes γ.nodes,vO',.map (some bc)] 1),(bc,.map es' c'),(ba,.row (ints aL') 1),(bd,.row (dA ((zQ γ.nodes).map fun u=>if u=v then n else D u)) 1),(b8,.row [.slice none 0 0,.slice none 0 0,.slice none 0 0] 1)]++dT (db::dbs)) (.cons _ (by
        show(List.append [_,_,_,_,_,_] ((db,Ob.dfr)::dT dbs)).Perm _
        exact List.perm_middle))
       clear T H' H2 hF'
       have T:=S.baseF Fh'
       refine step_ret (rj S.ok H3 (by omega)) ?_
       rintro rr h3 ⟨v3,k3,b3',rfl,f3,H4,hb1',hb2'⟩
       replace S:=S.rebaseF (fun c hc=>.inl (hF3 c hc).1) (T.stepF f3 (fun c hc=>⟨.inl (.inr hc),(hF3 c hc).2⟩))
       simp only [BS,LB,Nat.reduceLT,Nat.reduceEqDiff,r11]
       clear T
       have T:=S
       replace S:=S.base
       simp only [LC]at S
       refine aC (aI S (i:=0) rfl ?_ ?_ ?_ ono) ?_
       . exact(by simp only [Tryz.FFf5103])
       . exact(by exact bG)
       . exact zY (lbt rfl)
       clear S;rintro h ⟨S,mo⟩;clear mo;simp only [LC,an,lay,Xe,Xf,Nat.reduceAdd]at S
       simp only [BS,LB,Nat.reduceLT,Nat.reduceEqDiff]
       have H5:=H4.mo S.fr (fun c hc hm=>(hF3 c hc).2 hm)
       replace S:=T.rebase S
       subst hd
       have hlO:(O++[v]).length=O.length+1:=by simp
       have hlO2:=dj'.len
       refine ih (O++[v]) _ _ _ (by omega) ⟨db::dbs,_,K',Fh',es',c',_,aL',vO',bk2,v3,k3,b3',rfl,S,hF3,lA',MI',CF',dj',H5,hb1',hb2',?_⟩
       refine⟨by simp [aa,r0,ae],by simp [aa,r2,ae],by simp [aa,r3,ae],by simp [aa,r8,ae],by simp [aa,r9,ae],by simp [aa],by simp [aa,ae],by simp [aa]⟩
 . have e1:dA ((zQ γ.nodes).map fun _=>FAR)=zO γ.nodes (.int .i64 72057594037927936):=by
    rw [kk,List.map_const',Xm,List.map_replicate];rfl
   have e2:ints (zO γ.nodes (-1))=zO γ.nodes (.int .i64 (-1)):=by
    rw [pz,List.map_replicate]
   have S3:=S1.rebaseF (fun c hc=>.inl (hF1' c hc).1) (S2.rebase S)
   have nn:=S2.fr.n
   refine⟨[],fun _=>FAR,bZ (fun _=>none) s (some 0),F1,[],0,fun _=>none,zO γ.nodes (-1),.slice none 0 0,bk,v,k,b,rfl,?_,?_,by simp,lD,fun u=>by simp,dj,H3,hb1,hb2,?_⟩
   . rw [e1,e2];exact S3
   . rw [e1,e2]
     intro c hc
     refine⟨(hF1' c hc).1,fun hm=>?_⟩
     have h1:=(hF1' c hc).2
     have h2:=lF1 c hc
     simp [keys,dN,dT]at hm h1
     omega
   . refine⟨by simp [aa,ae,bn,ce],by simp [aa,ae,bn,ce],by simp [aa,ae,bn,ce],by simp [aa,ae,bn,ce],by simp [aa,ae,bn,ce],by simp [aa,ae,bn,ce],by simp [aa,ae,bn,ce],by simp [aa,ae,bn,ce]⟩
def Tryz.FFf6105:=aj Z1<|aj Z2<|aj Z0<|Z8
def Tryz.FFf6104:=aj Z1<|aj Z2<|aj Z0<|Z8
def Tryz.FFf648:=aj Z1<|aj Z2<|aj Z0<|aj Z5<|aj Z6<|aj Z10<|aj Z4<|aj Z12<|aj Z11<|aj Z26<|aj Z32<|Z68
def Tryz.FFf647:=aj Z1<|aj Z2<|aj Z0<|aj Z5<|aj Z6<|aj Z10<|aj Z4<|aj Z12<|aj Z11<|aj Z26<|aj Z32<|Z68
theorem fromKey:KeyF zM 105 Arc.t:=by
 intro h0 a ok
 have S:=Si ok
 refine ab (n:=5) (rs:=[.tmp 2]) rfl Tryz.e105 rfl rfl rfl (lbt rfl) ?_
 simp only [BS,Nat.reduceLT,cy]
 refine ag (aZ (by intro x e;cases e)) S ?_;clear S;intro h b S n_b;simp only [an]at S
 simp only [BS,LB,ac,Nat.reduceLT,Nat.reduceEqDiff,Tryz.FFf6105,S.ld (b:=b) (o:=1) m0 rfl]
 exact S.gr
theorem toKey:KeyF zM 104 Arc.s:=by
 intro h0 a ok
 have S:=Si ok
 refine ab (n:=5) (rs:=[.tmp 2]) rfl Tryz.e104 rfl rfl rfl (lbt rfl) ?_
 simp only [BS,Nat.reduceLT,cy]
 refine ag (aZ (by intro x e;cases e)) S ?_;clear S;intro h b S n_b;simp only [an]at S
 simp only [BS,LB,ac,Nat.reduceLT,Nat.reduceEqDiff,Tryz.FFf6104,S.ld (b:=b) (o:=0) m0 rfl]
 exact S.gr
theorem fromNext{γ:Gra}(hγ:Good γ){pn:Value}:NextF zM 85 γ pn Arc.s:=fun h nb ok hn v hv=>uG ok hn (by have:=hγ.many;omega) hv
theorem toNext{γ:Gra}(hγ:Good γ){pn:Value}:NextF zM 87 γ pn Arc.t:=fun h nb ok hn v hv=>vk ok hn (by have:=hγ.many;omega) hv
theorem qf{h0:Hp}(ok:h0.t.Sized h0.n){γ:Gra}(hγ:Good γ){pn:Value}{nb:Nat}(hn:bN h0 nb pn γ){s:Nat}(hs:s<γ.nodes):
 Ret zM 48 [pn,.int .i64 s] h0 fun r h'=>Gr h0 h'/\sG h' h0.n r (seen γ.arcs Arc.s Arc.t) s γ.nodes:=by
 have S:=Si ok
 refine ab (n:=10) (rs:=[.cell 4 187]) rfl Tryz.e48 rfl rfl rfl (lbt rfl) ?_
 simp only [BS,Tryz.FFf648]
 refine ag aF S ?_;clear S;intro h b4 S n_b4
 simp only [BS,LB,Nat.reduceLT,Nat.reduceEqDiff]
 have k0:=S.fr.n
 have lt4:=(S.row (b:=b4) m0).lt S.ok
 refine step_ret (vg S.ok hγ (hn.gr S.gr) hs (fromNext hγ) fromKey (fun a ha=>(hγ.arcs a ha).2.1)) ?_;intro v h ⟨g,T⟩;replace S:=S.call g;clear g
 obtain⟨vD,vA,vO,D,aL,O,rfl,s1,s2,s3,t4,t5,t6,t7,t8⟩:=T
 have f1:=s1.fl
 have f2:=s2.fl
 have f3:=s3.fl
 have q1: ∀c,av vD c\/av vA c\/av vO c->c≠b4:=fun c hc e=>by have:=t6 c hc;omega
 simp only [BS,LB,Nat.reduceLT,Nat.reduceEqDiff]
 refine aC (S.store (i:=0) rfl Xw (by intro x e;cases e) rfl (by simp only [an,XM,XS,f1.2.1,f2.2.1,f3.2.1,Xd]) (lbt rfl) ono) ?_
 clear S;rintro h ⟨S,mo⟩
 simp only [LC,an,lay,Xe,Xf,Nat.reduceAdd]at S
 simp only [BS,ac]
 refine(dk (by decide) (by simp only [aS,ae,Nat.reduceEqDiff,reduceIte];exact cw Tryz.a187 Xw (S.lds (b:=b4) (o:=0) (n:=3) m0 (lbt rfl)))).2 (dZ.2 ?_)
 exact⟨S.gr,vD,vA,vO,D,aL,O,rfl,s1.mo mo (fun c hc=>q1 c (.inl hc)),s2.mo mo (fun c hc=>q1 c (.inr (.inl hc))),s3.mo mo (fun c hc=>q1 c (.inr (.inr hc))),t4,t5,fun c hc=>zP k0 (t6 c hc),t7,t8⟩
theorem sN{h0:Hp}(ok:h0.t.Sized h0.n){γ:Gra}(hγ:Good γ){pn:Value}{nb:Nat}(hn:bN h0 nb pn γ){s:Nat}(hs:s<γ.nodes):
 Ret zM 47 [pn,.int .i64 s] h0 fun r h'=>Gr h0 h'/\sG h' h0.n r (seen γ.arcs Arc.t Arc.s) s γ.nodes:=by
 have S:=Si ok
 refine ab (n:=10) (rs:=[.cell 4 187]) rfl Tryz.e47 rfl rfl rfl (lbt rfl) ?_
 simp only [BS,Tryz.FFf647]
 refine ag aF S ?_;clear S;intro h b4 S n_b4
 simp only [BS,LB,Nat.reduceLT,Nat.reduceEqDiff]
 have k0:=S.fr.n
 have lt4:=(S.row (b:=b4) m0).lt S.ok
 refine step_ret (vg S.ok hγ (hn.gr S.gr) hs (toNext hγ) toKey (fun a ha=>(hγ.arcs a ha).1)) ?_;intro v h ⟨g,T⟩;replace S:=S.call g;clear g
 obtain⟨vD,vA,vO,D,aL,O,rfl,s1,s2,s3,t4,t5,t6,t7,t8⟩:=T
 have f1:=s1.fl
 have f2:=s2.fl
 have f3:=s3.fl
 have q1: ∀c,av vD c\/av vA c\/av vO c->c≠b4:=fun c hc e=>by have:=t6 c hc;omega
 simp only [BS,LB,Nat.reduceLT,Nat.reduceEqDiff]
 refine aC (S.store (i:=0) rfl Xw (by intro x e;cases e) rfl (by simp only [an,XM,XS,f1.2.1,f2.2.1,f3.2.1,Xd]) (lbt rfl) ono) ?_
 clear S;rintro h ⟨S,mo⟩
 simp only [LC,an,lay,Xe,Xf,Nat.reduceAdd]at S
 simp only [BS,ac]
 refine(dk (by decide) (by simp only [aS,ae,Nat.reduceEqDiff,reduceIte];exact cw Tryz.a187 Xw (S.lds (b:=b4) (o:=0) (n:=3) m0 (lbt rfl)))).2 (dZ.2 ?_)
 exact⟨S.gr,vD,vA,vO,D,aL,O,rfl,s1.mo mo (fun c hc=>q1 c (.inl hc)),s2.mo mo (fun c hc=>q1 c (.inr (.inl hc))),s3.mo mo (fun c hc=>q1 c (.inr (.inr hc))),t4,t5,fun c hc=>zP k0 (t6 c hc),t7,t8⟩
def Tryz.FFd1232:=aj Z1<|Z2
def wy(x:Int):Int:=min (max x 0) 72057594037927936
theorem yz{h0:Hp}(ok:h0.t.Sized h0.n){b1 b2:Nat}{x:Int}(e1:h0.load b1 0 1=some [.int .i64 0])(e2:h0.load b2 0 1=some [.int .i64 72057594037927936]):bK zM 232 [.int .i64 x,ptrTo b1,ptrTo b2] h0 (.int .i64 (wy x)):=by
 have S:=Si ok
 refine ab (n:=10) (rs:=[.tmp 4]) rfl Tryz.e232 rfl rfl rfl (lbt rfl) ?_
 simp only [BS,LB,ac,Nat.reduceLT,Nat.reduceEqDiff,Tryz.FFd1232,e1,e2]
 exact⟨rfl,S.gr⟩
theorem y7{h0:Hp}(ok:h0.t.Sized h0.n):Ret zM 213 [.int .i64 0,.int .i64 72057594037927936] h0 fun v h=>Gr h0 h/\ ∃b1 b2,v=.func (.func 232) #[] #[ptrTo b1,ptrTo b2]/\h.load b1 0 1=some [.int .i64 0]/\h.load b2 0 1=some [.int .i64 72057594037927936]:=by
 have S:=Si ok
 refine ab (n:=6) (rs:=[.tmp 4]) rfl Tryz.e213 rfl rfl rfl (lbt rfl) ?_
 simp only [BS,Nat.reduceLT]
 refine ag (aZ (by intro x e;cases e)) S ?_;clear S;intro h b1 S n_b1;simp only [an]at S
 simp only [BS,Nat.reduceLT,Nat.reduceEqDiff,if_false]
 refine ag (aZ (by intro x e;cases e)) S ?_;clear S;intro h b2 S n_b2;simp only [an]at S
 simp only [BS,LB,ac,Nat.reduceLT,Nat.reduceEqDiff]
 exact⟨S.gr,b1,b2,rfl,S.ld m1 rfl,S.ld m0 rfl⟩
theorem oY{h0:Hp}(ok:h0.t.Sized h0.n){x:Int}:bK zM 169 [.int .i64 x] h0 (.int .i64 (wy x)):=by
 have S:=Si ok
 refine ab (n:=6) (rs:=[.tmp 2]) rfl Tryz.e169 rfl rfl rfl (lbt rfl) ?_
 simp only [BS,LB]
 refine step_ret (y7 S.ok) ?_;intro v h ⟨g,b1,b2,e,e1,e2⟩;replace S:=S.call g;clear g
 subst e
 simp only [BS,LB,Nat.reduceLT,Nat.reduceEqDiff]
 refine au (yz S.ok e1 e2) ?_;intro h g;replace S:=S.call g;clear g
 simp only [BS,LB,ac,Nat.reduceLT,Nat.reduceEqDiff]
 exact S.gr
theorem oo{h0:Hp}(ok:h0.t.Sized h0.n){x:Int}:bK zM 168 [.int .i64 x] h0 (.bool (decide (wy x<72057594037927936))):=by
 have S:=Si ok
 refine ab (n:=6) (rs:=[.tmp 2]) rfl Tryz.e168 rfl rfl rfl (lbt rfl) ?_
 simp only [BS,LB,Nat.reduceLT,Nat.reduceEqDiff]
 refine au (oY S.ok) ?_;intro h g;replace S:=S.call g;clear g
 simp only [BS,LB,ac,Nat.reduceLT,Nat.reduceEqDiff]
 exact S.gr
theorem wy_bd(x:Int):0<=wy x/\wy x<=72057594037927936:=by unfold wy;omega
theorem wy_id{x:Int}(h0:0<=x)(h1:x<=72057594037927936):wy x=x:=by unfold wy;omega
def lu(v t:Int):Int:=if wy t<72057594037927936 then(if wy v<72057594037927936 then wy (wy v-wy t)else 72057594037927936)else 0
theorem low_ok{h0:Hp}(ok:h0.t.Sized h0.n){v t:Int}:bK zM 136 [.int .i64 v,.int .i64 t] h0 (.int .i64 (lu v t)):=by
 have S:=Si ok
 have b1:=wy_bd v
 have b2:=wy_bd t
 have e1:wy (wy v)=wy v:=wy_id b1.1 b1.2
 have e2:wy (wy t)=wy t:=wy_id b2.1 b2.2
 have w:aq .i64 (wy v-wy t)=wy v-wy t:=by rw [wrap64]<;>omega
 refine ab (n:=21) (rs:=[.tmp 4]) rfl Tryz.e136 rfl rfl rfl (lbt rfl) ?_
 simp only [BS,LB,Nat.reduceLT,Nat.reduceEqDiff]
 refine au (oY S.ok) ?_;intro h g;replace S:=S.call g;clear g
 simp only [BS,LB,Nat.reduceLT,Nat.reduceEqDiff]
 refine au (oY S.ok) ?_;intro h g;replace S:=S.call g;clear g
 simp only [BS,LB,Nat.reduceLT,Nat.reduceEqDiff]
 refine au (oo S.ok) ?_;intro h g;replace S:=S.call g;clear g
 unfold lu
 by_cases h1:wy t<72057594037927936
 . simp only [BS,LB,Nat.reduceLT,Nat.reduceEqDiff,e2,h1]
   refine au (oo S.ok) ?_;intro h g;replace S:=S.call g;clear g
   by_cases h2:wy v<72057594037927936
   . simp only [BS,LB,Nat.reduceLT,Nat.reduceEqDiff,e1,h2,w]
     refine au (oY S.ok) ?_;intro h g;replace S:=S.call g;clear g
     simp only [BS,LB,ac,Nat.reduceLT,Nat.reduceEqDiff]
     exact S.gr
   . simp only [BS,LB,ac,Nat.reduceLT,Nat.reduceEqDiff,e1,h2]
     exact S.gr
 . simp only [BS,LB,ac,Nat.reduceLT,Nat.reduceEqDiff,e2,h1]
   exact S.gr
theorem lift_ok{h0:Hp}(ok:h0.t.Sized h0.n){v t:Int}:bK zM 138 [.int .i64 v,.int .i64 t] h0 (.int .i64 (lu t v)):=by
 have S:=Si ok
 refine ab (n:=8) (rs:=[.tmp 4]) rfl Tryz.e138 rfl rfl rfl (lbt rfl) ?_
 simp only [BS,LB,Nat.reduceLT,Nat.reduceEqDiff]
 refine au (low_ok S.ok) ?_;intro h g;replace S:=S.call g;clear g
 simp only [BS,LB,ac,Nat.reduceLT,Nat.reduceEqDiff]
 exact S.gr
end Go.Ab
end
section
namespace Go.Ab
structure YldP(E:Env)(lb:Nat)(J:Nat->Hp->List Nat->Prop)(n:Nat)(P:Nat->Hp->List Nat->List Value->Prop):Prop where
 lt: ∀i h F,J i h F->h.t.Sized h.n/\ ∀b∈F,b<h.n
 gr: ∀i h F h',J i h F->Gr h h'->J i h' F
 round: ∀i x h F,i<n->P i h F x->J i h F->jS E lb x h fun o h'=>o=.ret (.bool true)/\ ∃F',J (i+1) h' F'/\Mo (· ∈F) h h'/\ ∀b∈F',b∈F\/h.n<=b
def IterP(E:Env)(g:FuncId)(post:List Value)(h0:Hp)(D:Nat->Prop)(n:Nat)(P:Nat->Hp->List Nat->List Value->Prop):Prop:=
 ∀lb J,YldP E lb J n P-> ∀h F,ItS h0 D h F->J 0 h F->dS E g (.func (.yield lb) #[] #[]::post) none h fun o rc h'=>rc=none/\ ∃u F',o=.ret u/\J n h' F'
theorem xL{E:Env}{cx:Cx}{o:Oper}{l:Loc}{K:Ex->Loc->Hp->Prop}{h0 h:Hp}{D:Nat->Prop}{lb i n:Nat}{J:Nat->Hp->List Nat->Prop}{P:Nat->Hp->List Nat->List Value->Prop}{x:List Value}{F:List Nat}
 (Y:YldP E lb J n P) (s:ItS h0 D h F) (hj:J i h F) (hi:i<n) (hx:P i h F x)
 (k1: ∀h' F',J (i+1) h' F'->ItS h0 D h' F'->Mo (· ∈F) h h'->(∀b∈F',b∈F\/h.n<=b)->K .normal (l.put o.dst (.bool true)) h'):eA E cx o l K (some (.yield lb x,h)):=by
 refine rX (Y.round i x h F hi hx hj) ?_
 rintro q h' ⟨rfl,F',a,b,c⟩
 exact k1 h' F' a (s.mo b c (Y.lt _ _ _ a).2) b c
def encV(w:Value):List Value:=[w]
theorem v8(w:Value):(encV w).length=1:=rfl
theorem flat_encV(l:List Value):l.flatMap encV=l:=by
 induction l with
 |nil=>rfl
 |cons x l ih=>rw [Xz,ih];rfl
def gI(h:Hp)(m:Nat)(v:Value)(n:Nat)(R:Nat->List Int):Prop:=
 ∃ws:List Value,aA h 1 encV v ws/\ws.length=n/\(∀c,av v c->m<=c)/\ ∀i w,ws[i]? =some w->aA h 1 (encI .i64) w (R i)/\ ∀c,av w c->m<=c
theorem gI.mo{M:Nat->Prop}{h h':Hp}{m n:Nat}{v:Value}{R:Nat->List Int}(r:gI h m v n R)(g:Mo M h h')(hm: ∀b,M b->b<m):gI h' m v n R:=by
 obtain⟨ws,a,b,c,d⟩:=r
 exact⟨ws,a.mo g (fun x hx hM=>by have:=c x hx;have:=hm x hM;omega),b,c,fun i w hw=>⟨(d i w hw).1.mo g (fun x hx hM=>by have:=(d i w hw).2 x hx;have:=hm x hM;omega),(d i w hw).2⟩⟩
theorem gI.gr{h h':Hp}{m n:Nat}{v:Value}{R:Nat->List Int}(r:gI h m v n R)(g:Gr h h'):gI h' m v n R:=r.mo (M:=NoM) g.fr (fun _ h=>h.elim)
theorem gI.low{h:Hp}{m m' n:Nat}{v:Value}{R:Nat->List Int}(r:gI h m v n R)(hm:m'<=m):gI h m' v n R:=by
 obtain⟨ws,a,b,c,d⟩:=r
 exact⟨ws,a,b,fun x hx=>zP hm (c x hx),fun i w hw=>⟨(d i w hw).1,fun x hx=>zP hm ((d i w hw).2 x hx)⟩⟩
theorem gI.row{h:Hp}{m n:Nat}{v:Value}{R:Nat->List Int}(r:gI h m v n R){i:Nat}(hi:i<n): ∃w,(∃c o,idxS (some 1) v (.int .i64 (i:Nat))=some (.pointer (some ⟨c,o,none⟩))/\h.load c o 1=some [w])/\aA h 1 (encI .i64) w (R i)/\ ∀c,av w c->m<=c:=by
 obtain⟨ws,a,b,c,d⟩:=r
 obtain⟨q,o,e1,e2⟩:=a.ix (kd:=.i64) v8 (i:=i) (by omega)
 have hw:ws[i]? =some ws[i]:=zS (by omega)
 exact⟨ws[i],⟨q,o,e1,e2⟩,(d i _ hw).1,(d i _ hw).2⟩
theorem flat_nat(l:List Nat):l.flatMap cJ=(l.map fun(x:Nat)=>(x:Int)).flatMap (encI .i64):=by
 induction l with
 |nil=>rfl
 |cons x l ih=>rw [Xz,XN,Xz,ih];rfl
theorem sl_nat{h:Hp}{v:Value}{l:List Nat}(s:aA h 1 cJ v l):aA h 1 (encI .i64) v (l.map fun(x:Nat)=>(x:Int)):=by
 rcases s with⟨rfl,rfl⟩|⟨b,o,s,c,rfl,h2,h3⟩
 . exact .inl ⟨rfl,rfl⟩
 . refine .inr ⟨b,o,s,c,by rw [Xa],by rw [Xa];exact h2,?_⟩
   rw [Xa,h3,flat_nat]
def eE(N:Nat)(l:List Int):Prop:=l.length<=16/\ ∀i,i<l.length->0<=l.getD i 0/\l.getD i 0<N/\l.getD i 0∉l.take i
theorem eE.push{N:Nat}{l:List Int}(h:eE N l)(hl:l.length<16){x:Int}(h0:0<=x)(hN:x<N)(hx:x∉l):eE N (l++[x]):=by
 refine⟨by simp;omega,fun i hi=>?_⟩
 simp at hi
 by_cases e:i=l.length
 . subst e
   have e1:(l++[x]).getD l.length 0=x:=by simp [zN]
   rw [e1,List.take_left']
   exact⟨h0,hN,hx⟩
   rfl
 . have hil:i<l.length:=by omega
   have e1:(l++[x]).getD i 0=l.getD i 0:=by simp [zN,XA hil]
   rw [e1,Xg (by omega)]
   exact h.2 i hil
theorem mayL_nil(N:Nat):eE N []:=⟨by simp,fun i hi=>by simp at hi⟩
structure TabAt(h:Hp)(m:Nat)(p:Value)(N:Nat)(marks:List Int)(R Q:Nat->List Int):Prop where
 ex: ∃b vM vT vF,p=ptrTo b/\Row h b [.int .i64 N,vM,vT,vF] 1/\aA h 1 (encI .i64) vM marks/\gI h m vT marks.length R/\gI h m vF marks.length Q/\m<=b/\ ∀c,av vM c->m<=c
theorem TabAt.mo{M:Nat->Prop}{h h':Hp}{m N:Nat}{p:Value}{marks:List Int}{R Q:Nat->List Int}(t:TabAt h m p N marks R Q)(g:Mo M h h')(hm: ∀b,M b->b<m):TabAt h' m p N marks R Q:=by
 obtain⟨b,vM,vT,vF,e,h1,h2,h3,h4,h5,h6⟩:=t.ex
 exact⟨b,vM,vT,vF,e,g.has (o:=.row _ 1) h1 (fun h=>by have:=hm _ h;omega),h2.mo g (fun x hx hM=>by have:=h6 x hx;have:=hm x hM;omega),h3.mo g hm,h4.mo g hm,h5,h6⟩
theorem TabAt.gr{h h':Hp}{m N:Nat}{p:Value}{marks:List Int}{R Q:Nat->List Int}(t:TabAt h m p N marks R Q)(g:Gr h h'):TabAt h' m p N marks R Q:=t.mo (M:=NoM) g.fr (fun _ h=>h.elim)
theorem gI.lenq{h h':Hp}{m n:Nat}{v:Value}{R:Nat->List Int}{e:TypeId}(r:gI h' m v n R):lenQ (some (.slice e)) h v=some (.val (.int .i64 n),h):=by
 have⟨ws,a,b,_⟩:=r
 rw [<-b];exact a.lenq
end Go.Ab

end
section
namespace Go.Ab
open Go.Proofs
set_option maxRecDepth 10000
def Tryz.FFtb199:=aj Z1<|aj Z2<|aj Z0<|aj Z3<|Z16
def Tryz.FFtb1170:=aj Z1<|aj Z2<|aj Z0<|aj Z3<|aj Z7<|aj Z9<|aj Z14<|aj Z4<|Z49
def Tryz.FFtb142:=aj Z1<|aj Z2<|aj Z0<|aj Z3<|aj Z4<|aj Z49<|Z16
theorem may1_ok{h0:Hp}(ok:h0.t.Sized h0.n){b5 b2 bm c N k:Nat}{x:Int}{es:List (Value×Value×Nat)}{f:Int->Option Value}(e5:h0.load b5 0 1=some [.map (some bm)])(e2:h0.load b2 0 1=some [.int .i64 N])(hm:h0.get bm=some (.map es c))(MI:cM es c f)(hf:(f x).getD (.int .i64 0)=.int .i64 k)(hk:k<=1)(n5:b5≠bm)(n2:b2≠bm):
 Ret zM 99 [.int .i64 x,ptrTo b5,ptrTo b2] h0 fun r h'=>Mo (· =bm) h0 h'/\r=.bool (decide (x<0\/(N:Int)<=x\/k=1))/\ ∃es' c',h'.get bm=some (.map es' c')/\cM es' c' (c8 f x (some (.int .i64 (k+1:Nat)))):=by
 have S:=St.init1 ok (o:=.map es c) hm
 have lk:=jD (x:=x) Xv XK (z:=.int .i64 0) (by kernel_rfl) hm MI
 rw [hf]at lk
 have w:aq .i64 ((k:Int)+1)=((k+1:Nat):Int):=by rw [wrap64]<;>omega
 refine ab (n:=22) (rs:=[.tmp 4]) rfl Tryz.e99 rfl rfl rfl (lbt rfl) ?_
 simp only [BS,LB,Nat.reduceLT,Nat.reduceEqDiff,Tryz.FFtb199,e5,lk,w]
 refine aC (S.mputI (i:=0) rfl Xv XK MI _) ?_
 clear S;rintro h ⟨_,es',c',MI',S⟩
 simp only [LC]at S
 have e5':=S.old e5 n5
 have e2':=S.old e2 n2
 have hg:h.get bm=some (.map es' c'):=(S.own _ m0).2
 have lk2:=jD (x:=x) Xv XK (z:=.int .i64 0) (by kernel_rfl) hg MI'
 rw [show c8 f x (some (.int .i64 ((k+1:Nat):Int))) x=some (.int .i64 ((k+1:Nat):Int)) by unfold c8;rw [if_pos rfl],Xj]at lk2
 by_cases c1:x<0
 . simp only [BS,LB,ac,Nat.reduceLT,Nat.reduceEqDiff,c1]
   exact⟨S.fr,by simp [c1],es',c',hg,MI'⟩
 . by_cases c2:(N:Int)<=x
   . simp only [BS,LB,ac,Nat.reduceLT,Nat.reduceEqDiff,Tryz.FFtb199,e2',c1,c2]
     exact⟨S.fr,by simp [c2],es',c',hg,MI'⟩
   . by_cases c3:k=1
     . subst c3
       simp only [BS,LB,ac,Nat.reduceLT,Nat.reduceEqDiff,Nat.reduceAdd,Int.reduceLT,zU,Tryz.FFtb199,e5',e2',c1,c2,lk2]
       exact⟨S.fr,by simp,es',c',hg,MI'⟩
     . have k0:k=0:=by omega
       subst k0
       simp only [BS,LB,ac,Nat.reduceLT,Nat.reduceEqDiff,Int.reduceLT,zU,Tryz.FFtb199,e5',e2',c1,c2,lk2]
       exact⟨S.fr,by simp [c1,c2],es',c',hg,MI'⟩
def OkAt(N:Nat)(l:List Int)(i:Nat):Prop:=0<=l.getD i 0/\l.getD i 0<N/\l.getD i 0∉l.take i
theorem mayIdx_ok {h0:Hp} (ok:h0.t.Sized h0.n) {b5 b2 bm N:Nat} {v:Value} {l:List Int} (hv:aA h0 1 (encI .i64) v l) (hl:l.length<=1000) (e5:h0.load b5 0 1=some [.map (some bm)]) (e2:h0.load b2 0 1=some [.int .i64 N]) (hm:h0.get bm=some (.map [] 0)) (n5:b5≠bm) (n2:b2≠bm):
 Ret zM 170 [v,.func (.func 99) #[] #[ptrTo b5,ptrTo b2]] h0 fun r h'=>Mo (· =bm) h0 h'/\ ∃z,r=.int .i64 z/\(0<=z↔ ¬ ∀i,i<l.length->OkAt N l i):=by
 have hvb: ∀c,av v c-> ¬c=bm:=by
  rintro c hc rfl
  rcases hv with⟨rfl,_⟩|⟨b,o,s,c',rfl,_,h3⟩
  . exact hc.elim
  . have:b=c:=hc
    subst this
    simp [Hp.load,hm]at h3
 refine ab (n:=19) (rs:=[.tmp 4]) rfl Tryz.e170 rfl rfl rfl (lbt rfl) ?_
 simp only [BS,LB,Nat.reduceLT,Nat.reduceEqDiff,Tryz.FFtb1170,hv.lenq]
 refine bA (fun(i:Nat) ρ h=>i<=l.length/\Mo (· =bm) h0 h/\(∃es c f,h.get bm=some (.map es c)/\cM es c f/\ ∀x,f x=if x∈l.take i then some (.int .i64 1)else none)/\(∀j,j<i->OkAt N l j)/\ρ 0=v/\ρ 1=.func (.func 99) #[] #[ptrTo b5,ptrTo b2]/\ρ 7=.int .i64 l.length/\ρ 8=.int .i64 i) (fun i=>l.length-i) ?_ 0 _ _ ?_
 . intro i ih ρ h ⟨hi,mo,⟨es,c,f,hg,MI,hf⟩,hok,r0,r1,r7,r8⟩
   by_cases hlt:i<l.length
   . obtain ⟨q,o,hidx,hld⟩:=(hv.mo mo hvb).ix (kd:=.i64) (dV .i64) hlt
     have w:aq .i64 ((i:Int)+1)=((i+1:Nat):Int):=by rw [wrap64]<;>omega
     have ld: ∀{b:Nat} {x},b≠bm->h0.load b 0 1=some x->h.load b 0 1=some x:=fun hne e=>by
      have:=mo.get _ (bI mo.ok0 e) hne
      unfold Hp.load at e⊢
      rw [this];exact e
     have gd:l.getD i 0=l[i]:=by simp [zN,hlt]
     simp only [BS,LB,Nat.reduceLT,Nat.reduceEqDiff,Tryz.FFtb1170,r0,r1,r7,r8,aP,hlt,hidx,hld,encI]
     refine step_ret (may1_ok mo.ok (x:=l[i]) (N:=N) (k:=if l[i]∈l.take i then 1 else 0) (ld n5 e5) (ld n2 e2) hg MI (by rw [hf];split<;>rfl) (by split<;>omega) n5 n2) ?_
     rintro r h' ⟨f1,rfl,es',c',hg',MI'⟩
     have mo':=mo.trans f1 (fun _ h=>.inl h)
     by_cases hw:OkAt N l i
     . have e:decide (l[i]<0\/(N:Int)<=l[i]\/(if l[i]∈l.take i then 1 else 0)=1)=false:=by
        obtain⟨w1,w2,w3⟩:=hw
        rw [gd]at w1 w2 w3
        rw [if_neg w3]
        simp;omega
       rw [e]
       have nm:l[i]∉l.take i:=by have:=hw.2.2;rwa [gd]at this
       simp only [BS,LB,Nat.reduceLT,Nat.reduceEqDiff,r8,w]
       refine ih (i+1) _ _ (by omega) ⟨by omega,mo',⟨es',c',_,hg',MI',fun x=>?_⟩,fun j hj=>?_,by simp [aa,r0],by simp [aa,r1,ae],by simp [aa,r7],by simp [aa]⟩
       . have et:=Xq hlt
         rw [if_neg nm]
         unfold c8
         by_cases ex:x=l[i]
         . rw [if_pos ex,if_pos (by rw [et];exact zW _ (List.mem_singleton.2 ex))];rfl
         . rw [if_neg ex,hf]
           have:x∈l.take (i+1)↔x∈l.take i:=by rw [et,List.mem_append,List.mem_singleton];exact⟨fun h=>h.resolve_right ex,.inl⟩
           simp only [this]
       . by_cases e2:j=i
         . subst e2;exact hw
         . exact hok j (by omega)
     . have e:decide (l[i]<0\/(N:Int)<=l[i]\/(if l[i]∈l.take i then 1 else 0)=1)=true:=by
        unfold OkAt at hw
        rw [gd]at hw
        simp only [decide_eq_true_eq]
        by_cases nm:l[i]∈l.take i
        . rw [if_pos nm];exact .inr (.inr rfl)
        . by_cases a1:l[i]<0
          . exact .inl a1
          . by_cases a2:(N:Int)<=l[i]
            . exact .inr (.inl a2)
            . exact absurd ⟨by omega,by omega,nm⟩ hw
       rw [e]
       simp only [BS,LB,ac,Nat.reduceLT,Nat.reduceEqDiff]
       exact⟨mo',_,rfl,by simp only [Int.natCast_nonneg,true_iff];exact fun h=>hw (h i hlt)⟩
   . simp only [BS,LB,ac,Nat.reduceLT,Nat.reduceEqDiff,r7,r8,aP,hlt]
     exact⟨mo,_,rfl,⟨fun h=>by omega,fun h=>absurd (fun j hj=>hok j (by omega)) h⟩⟩
 . exact⟨XV _,Mo.refl ok,⟨[],0,fun _=>none,hm,lD,fun x=>by simp⟩,fun j hj=>by omega,by simp [aa,bn],by simp [aa,bn,ce,ae],by simp [aa],by simp [aa]⟩
noncomputable instance mayDec(N:Nat)(l:List Int):Decidable (eE N l):=Classical.propDecidable _
theorem mayCf_ok{h0:Hp}(ok:h0.t.Sized h0.n){b5 b2 bm N:Nat}{v:Value}{l:List Int}(hv:aA h0 1 (encI .i64) v l)(hl:l.length<=1000)(e5:h0.load b5 0 1=some [.map (some bm)])(e2:h0.load b2 0 1=some [.int .i64 N])(hm:h0.get bm=some (.map [] 0))(n5:b5≠bm)(n2:b2≠bm)(d:Decidable (∀i,i<l.length->OkAt N l i)):
 Ret zM 100 [v,.func (.func 99) #[] #[ptrTo b5,ptrTo b2]] h0 fun r h'=>Mo (· =bm) h0 h'/\r=.bool (!decide (∀i,i<l.length->OkAt N l i)):=by
 refine ab (n:=9) (rs:=[.tmp 4]) rfl Tryz.e100 rfl rfl rfl (lbt rfl) ?_
 simp only [BS,LB,Nat.reduceLT,Nat.reduceEqDiff]
 refine step_ret (mayIdx_ok ok hv hl e5 e2 hm n5 n2) ?_
 rintro r h ⟨mo,z,rfl,hz⟩
 by_cases c: ∀i,i<l.length->OkAt N l i
 . have c2: ¬(0<=z):=fun h=>hz.1 h c
   simp only [BS,LB,ac,Nat.reduceLT,Nat.reduceEqDiff,c2]
   exact⟨mo,by rw [decide_eq_true c];rfl⟩
 . have c2:0<=z:=hz.2 c
   simp only [BS,LB,ac,Nat.reduceLT,Nat.reduceEqDiff,c2]
   exact⟨mo,by rw [decide_eq_false c];rfl⟩
theorem may_ok{h0:Hp}(ok:h0.t.Sized h0.n){v:Value}{l:List Int}{N:Nat}(hv:aA h0 1 (encI .i64) v l)(hl:l.length<=1000):bK zM 42 [.int .i64 N,v] h0 (.bool (decide (eE N l))):=by
 have S:=Si ok
 refine ab (n:=18) (rs:=[.tmp 4]) rfl Tryz.e42 rfl rfl rfl (lbt rfl) ?_
 simp only [BS,Nat.reduceLT]
 refine ag (aZ (by intro x e;cases e)) S ?_;clear S;intro h b2 S n_b2;simp only [an]at S
 simp only [BS]
 refine ag mS S ?_;clear S;intro h bm S n_bm
 simp only [BS,Tryz.FFtb142]
 refine ag aF S ?_;clear S;intro h b5 S n_b5
 simp only [BS,LB,Nat.reduceLT,Nat.reduceEqDiff]
 refine aC (aI S (i:=0) rfl ?_ ?_ ?_ ono) ?_
 . exact(by simp only [Tryz.FFtb142])
 . exact(by exact fl_map)
 . exact zY (lbt rfl)
 clear S;rintro h ⟨S,mo⟩;clear mo;simp only [LC,an,lay,Xe,Xf,Nat.reduceAdd]at S
 by_cases h16:l.length<=16
 . have c1:(l.length:Int)<=16:=by omega
   simp only [BS,LB,Nat.reduceLT,Nat.reduceEqDiff,Tryz.FFtb142,hv.lenq,c1]
   have ap:=S.apart
   simp only [keys,XN,List.map_nil,List.filterMap_nil,XI,List.nodup_cons,List.mem_cons,List.not_mem_nil,or_false,not_or]at ap
   have d:Decidable (∀i,i<l.length->OkAt N l i):=Classical.propDecidable _
   refine step_ret (mayCf_ok S.ok (hv.gr S.gr) hl (S.ld (b:=b5) (o:=0) m0 rfl) (S.ld (b:=b2) (o:=0) m2 rfl) (S.own _ m1).2 ap.1.1 (fun e=>ap.2.1 e.symm) d) ?_
   rintro r h ⟨mo,rfl⟩
   have g2:Gr h0 h:=(S.fr.trans mo (fun c hc=>.inr (by subst hc;exact n_bm)):Mo NoM h0 h).gr
   simp only [BS,LB,ac,Nat.reduceLT,Nat.reduceEqDiff]
   refine⟨?_,g2⟩
   congr 1
   by_cases c: ∀i,i<l.length->OkAt N l i
   . have:eE N l:=⟨h16,c⟩
     rw [decide_eq_true c,decide_eq_true this];rfl
   . have: ¬eE N l:=fun h=>c h.2
     rw [decide_eq_false c,decide_eq_false this];rfl
 . have c1: ¬(l.length:Int)<=16:=by omega
   simp only [BS,LB,ac,Nat.reduceLT,Nat.reduceEqDiff,Tryz.FFtb142,hv.lenq,c1]
   exact⟨by have: ¬eE N l:=fun h=>h16 h.1;simp [this],S.gr⟩
open Tryz in
def Tryz.FFtb2102:=aj Z1<|aj Z2<|aj Z0<|aj Z3<|aj Z5<|aj Z6<|aj Z10<|aj Z4<|aj Z85<|aj Z12<|aj Z11<|aj a185<|aj s185<|aj z185<|aj n185<|Z68
def Tryz.FFtb2101:=aj Z1<|aj Z2<|aj Z0<|aj Z3<|aj Z9<|aj Z14<|aj Z5<|aj Z18<|Z86
open Classical in
noncomputable def dOf(B:List Arc)(s v:Nat):Nat:=if h: ∃x,IsD B s v x then h.choose else 0
theorem dOf_is{B:List Arc}{s v x:Nat}(h:IsD B s v x):dOf B s v=x/\IsD B s v (dOf B s v):=by
 have he: ∃x,IsD B s v x:=⟨x,h⟩
 have e:dOf B s v=he.choose:=by unfold dOf;rw [dif_pos he]
 rw [e]
 exact⟨he.choose_spec.uniq h,he.choose_spec⟩
noncomputable def jh(B:List Arc)(N s:Nat):List Int:=(zQ N).map fun v=>((dOf B s v:Nat):Int)
theorem rowD_of{B:List Arc}{N s:Nat}{D:Nat->Nat}(h: ∀v,IsD B s v (D v)):((zQ N).map D).map (fun(x:Nat)=>(x:Int))=jh B N s:=by
 unfold jh
 rw [XT]
 refine XQ fun v _=>?_
 show((D v:Nat):Int)=_
 rw [(dOf_is (h v)).1]
def RunF(E:Env)(g:FuncId)(γ:Gra)(pn:Value)(B:List Arc):Prop:= ∀(h:Hp) (nb:Nat),h.t.Sized h.n->bN h nb pn γ-> ∀s,s<γ.nodes->Ret E g [pn,.int .i64 (s:Nat)] h fun r h'=>Gr h h'/\sG h' h.n r B s γ.nodes
theorem runTo{γ:Gra}(hγ:Good γ){pn:Value}:RunF zM 47 γ pn (seen γ.arcs Arc.t Arc.s):=fun h nb ok hn s hs=>sN ok hγ hn hs
theorem runFrom{γ:Gra}(hγ:Good γ){pn:Value}:RunF zM 48 γ pn (seen γ.arcs Arc.s Arc.t):=fun h nb ok hn s hs=>qf ok hγ hn hs
def PRow(m:Nat)(R:Nat->List Int)(i:Nat)(h:Hp)(F:List Nat)(x:List Value):Prop:= ∃w,x=[w]/\aA h 1 (encI .i64) w (R i)/\ ∀c,av w c->m<=c/\c∉F
theorem rows_ok{h0:Hp}(ok:h0.t.Sized h0.n){p vl ve:Value}(f1:Fl p)(f2:Fl vl)(f3:Fl ve):Ret zM 46 [p,vl,ve] h0 fun v h'=>Gr h0 h'/\ ∃b1 b2 b3,v=.func (.func 102) #[] #[ptrTo b1,ptrTo b2,ptrTo b3]/\h0.n<=b1/\h0.n<=b2/\h0.n<=b3/\h'.load b1 0 1=some [vl]/\h'.load b2 0 1=some [ve]/\h'.load b3 0 1=some [p]:=by
 have S:=Si ok
 refine ab (n:=8) (rs:=[.tmp 6]) rfl Tryz.e46 rfl rfl rfl (lbt rfl) ?_
 simp only [BS,Nat.reduceLT]
 refine ag (cI (by assumption)) S ?_;clear S;intro h b3 S n_b3
 simp only [BS,Nat.reduceLT,Nat.reduceEqDiff,if_false]
 refine ag (cI (by assumption)) S ?_;clear S;intro h b1 S n_b1
 simp only [BS,Nat.reduceLT,Nat.reduceEqDiff,if_false]
 refine ag (cI (by assumption)) S ?_;clear S;intro h b2 S n_b2
 simp only [BS,LB,ac,Nat.reduceLT,Nat.reduceEqDiff]
 exact⟨S.gr,b1,b2,b3,rfl,n_b1,n_b2,n_b3,S.ld m1 rfl,S.ld m0 rfl,S.ld m2 rfl⟩
theorem rows_it{hq h0:Hp}(okq:hq.t.Sized hq.n)(ok0:h0.t.Sized h0.n)(kq:ir hq h0)(nq:hq.n<=h0.n){pn vl:Value}{γ:Gra}{nb b1 b2 b3 m:Nat}(hn:bN hq nb pn γ){l:List Int}(hl:aA h0 1 (encI .i64) vl l)(hok: ∀i,i<l.length->0<=l.getD i 0/\l.getD i 0<γ.nodes)(hlen:l.length<1000){g:FuncId}{B:List Arc}(hr:RunF zM g γ pn B)(hm:m<=h0.n)
 (e1:h0.load b1 0 1=some [vl]) (e2:h0.load b2 0 1=some [.func (.func g) #[] #[]]) (e3:h0.load b3 0 1=some [pn]):
 IterP zM 102 [ptrTo b1,ptrTo b2,ptrTo b3] h0 (fun c=>c=b1\/c=b2\/c=b3\/av vl c\/c<hq.n) l.length (PRow m fun i=>jh B γ.nodes (l.getD i 0).toNat):=by
 intro lb J Y h F s hj
 refine enter (n:=22) (rs:=[]) rfl Tryz.e102 rfl rfl rfl (lbt rfl) ?_
 have l1:=s.load ok0 e1 (.inl rfl)
 simp only [BS,LB,Nat.reduceLT,Tryz.FFtb2102,l1,hl.lenq]
 refine bA (fun(i:Nat) ρ h=>i<=l.length/\ ∃F,ItS h0 (fun c=>c=b1\/c=b2\/c=b3\/av vl c\/c<hq.n) h F/\J i h F/\ρ 0=.func (.yield lb) #[] #[]/\ρ 2=ptrTo b2/\ρ 3=ptrTo b3/\ρ 7=vl/\ρ 8=.int .i64 l.length/\ρ 9=.int .i64 i) (fun i=>l.length-i) ?_ 0 _ _ ?_
 . clear l1
   intro i ih ρ h ⟨hi,F,s,hj,r0,r2,r3,r7,r8,r9⟩
   by_cases hlt:i<l.length
   . obtain⟨c,o,hidx,hld⟩:=(s.sl ok0 hl (fun b h=>.inr (.inr (.inr (.inl h))))).ix (kd:=.i64) (dV .i64) hlt
     have l2:=s.load ok0 e2 (.inr (.inl rfl))
     have l3:=s.load ok0 e3 (.inr (.inr (.inl rfl)))
     have nt:bN h nb pn γ:=hn.keep okq (s.keep kq nq (fun c hc=>.inr (.inr (.inr (.inr hc)))))
     have w:aq .i64 ((i:Int)+1)=((i+1:Nat):Int):=by rw [wrap64]<;>omega
     have gd:l.getD i 0=l[i]:=by simp [zN,hlt]
     have hb:=hok i hlt
     rw [gd]at hb
     obtain⟨mk,emk⟩: ∃k:Nat,l[i]=k:=⟨l[i].toNat,by omega⟩
     rw [emk]at hld hb
     simp only [BS,LB,Nat.reduceLT,Nat.reduceEqDiff,Tryz.FFtb2102,r0,r2,r3,r7,r8,r9,aP,hlt,hidx,hld,encI,l2,l3]
     refine step_ret (hr h nb s.ok nt mk (by omega)) ?_
     rintro v h2 ⟨g1,vD,vA,vO,D,aL,O,rfl,s1,s2,s3,t4,t5,t6,t7,t8⟩
     simp only [BS,LB,Nat.reduceLT,Nat.reduceEqDiff,Tryz.FFtb2102]
     refine xL Y (s.gr g1) (Y.gr _ _ _ _ hj g1) (i:=i) hlt ⟨vD,rfl,?_,fun c hc=>⟨?_,fun hF=>?_⟩⟩ ?_
     . have:=sl_nat s1
       rw [rowD_of t5]at this
       show aA h2 1 _ vD (jh B γ.nodes (l.getD i 0).toNat)
       rw [gd,emk]
       exact this
     . exact zP hm (zP s.n (t6 c (.inl hc)))
     . have h1:=s.lt c hF
       have h2:=t6 c (.inl hc)
       omega
     . intro h' F' a s' _ _
       simp only [BS,LB,Nat.reduceLT,Nat.reduceEqDiff,r9,w]
       exact ih (i+1) _ _ (by omega) ⟨by omega,F',s',a,by simp [aa,r0],by simp [aa,r2,ae],by simp [aa,r3,ae],by simp [aa,r7],by simp [aa,r8],by simp [aa]⟩
   . simp only [BS,LB,Nat.reduceLT,r8,r9,aP,hlt]
     have:i=l.length:=by omega
     subst this
     exact dD (cS ⟨rfl,_,rfl,rfl,_,F,rfl,hj⟩)
 . exact⟨by omega,F,s,hj,by simp [aa,cD],by simp [aa,cD,ae],by simp [aa,cD,ae],by simp [aa],by simp [aa],by simp [aa]⟩
theorem vS {h0:Hp} (ok:h0.t.Sized h0.n) {g:FuncId} {post:Array Value} {D:Nat->Prop} {n m:Nat} {R:Nat->List Int} (it:IterP zM g post.toList h0 D n (PRow m R)) (hm:m<=h0.n) (hn:n<1000):
 Ret zM 101 [.slice none 0 0,.func (.func g) #[] post] h0 fun r h'=>Gr h0 h'/\gI h' m r n R:=by
 have S:=Si ok
 refine ab (n:=13) (rs:=[.tmp 4]) rfl Tryz.e101 rfl rfl rfl (lbt rfl) ?_
 simp only [BS,Nat.reduceLT]
 refine ag (cI (by exact bL)) S ?_;clear S;intro h b2 S n_b2
 simp only [BS,Nat.reduceLT,Nat.reduceEqDiff,if_false]
 replace S:=S.nilG (k:=1)
 have g0:=S.gr
 refine kA S (g:=g) (a:=#[]) (b:=post) (by simp [cB,aa,bn,ce]) rfl rfl ?_
 intro h2 db lb S' hdb hlb g2
 obtain⟨X,hX,S'⟩: ∃X:fF,X=_/\St NoM h0 h2 [(lb,.loop X),(db,.dfr),(b2,.row [.slice none 0 0] 1)] [(.slice none 0 0,1,[])]:=⟨_,rfl,S'⟩
 have hJ:YldP zM lb (fun k h' F=> ∃(ws:List Value) (vR:Value),St NoM h0 h' [(lb,.loop X),(db,.dfr),(b2,.row [vR] 1)] [(vR,1,ws)]/\ws.length=k/\k<=n/\(∀i w,ws[i]? =some w->aA h' 1 (encI .i64) w (R i)/\ ∀c,av w c->m<=c/\c∉F)/\F=keys [(lb,.loop X),(db,.dfr),(b2,.row [vR] 1)] [(vR,1,ws)]) n (PRow m R):=by
  refine⟨?_,?_,?_⟩
  . rintro i h F ⟨ws,vR,S,_,_,_,rfl⟩;exact⟨S.ok,fun b hb=>S.key_lt hb⟩
  . rintro i h F h' ⟨ws,vR,S,a,b,c,rfl⟩ gg;exact⟨ws,vR,S.call gg,a,b,fun i w hw=>⟨(c i w hw).1.gr gg,(c i w hw).2⟩,rfl⟩
  . rintro i x hR F hi ⟨w,rfl,sw,hw⟩ ⟨ws,vR,S,a,b,c,rfl⟩
    subst hX
    obtain⟨wa,wn,wc,rfl⟩:=sw.form
    have fw:Fl (.slice wa wn wc):=bL
    refine kB (S.get m0) (by rw [Tryz.e101];rfl) rfl ?_
    have S0:=S
    replace S:=S.base
    simp only [BS,LB,Nat.reduceLT,Nat.reduceEqDiff]
    refine jG S (i:=0) rfl rfl rfl rfl rfl ?_
    clear S;intro h S
    simp only [LC]at S
    simp only [BS,LB,Nat.reduceLT,Nat.reduceEqDiff,Tryz.FFtb2101,S.ld (b:=b2) (o:=0) m2 rfl]
    refine ag (cm (by exact Tryz.u114) (by exact Tryz.e24E) (by decide) (by rfl)) S ?_;clear S;intro h bs S n_bs;simp only [LC,aY,bM,an,Nat.reduceMul,Nat.reduceAdd,XE,XF,Xl,XJ]at S
    simp only [BS,LB,Nat.reduceLT,Nat.reduceEqDiff]
    have src:aO h 1 (.slice (some ⟨bs,0,none⟩) 1 1)=some (1,[.slice wa wn wc]):=by simp only [aO];rw [S.lds (b:=bs) (o:=0) (n:=1*1) m0 (lbt rfl)];rfl
    replace S:=S.drop1
    refine fL (S.grow (j:=0) (m:=1) (new:=[.slice wa wn wc]) rfl Tryz.u114 Tryz.e24E (by decide) Tryz.n114 src rfl (by decide) (by simp [fw.2.1]) (by simp;omega)) ?_
    clear S src;rintro h vR' S
    simp only [LC]at S
    have fv:Fl vR':=by
     rcases(S.gown _ m0).1 with⟨e,_⟩|⟨_,_,e,_⟩
     . rw [show vR'=_ from e];exact bL
     . rw [show vR'=_ from e];exact bL
    simp only [BS,LB,Nat.reduceLT,Nat.reduceEqDiff]
    refine aC (aI S (i:=2) rfl Tryz.s114 fv (zY (lbt rfl)) ono) ?_
    clear S;rintro h ⟨S,_⟩
    simp only [LC]at S
    simp only [BS]
    refine gK S (i:=0) rfl ?_
    clear S;intro h S
    simp only [LC]at S
    refine⟨rfl,_,⟨ws++[.slice wa wn wc],vR',S0.rebase S,by simp [a],by omega,fun j u hu=>?_,rfl⟩,S.fr,S.key_new⟩
    have key:aA h 1 (encI .i64) u (R j)/\ ∀c,av u c->m<=c/\c∉keys [(lb,Ob.dfr),(db,.dfr),(b2,.dfr)] [(vR,1,ws)]/\c<hR.n:=by
     by_cases hj:j<ws.length
     . rw [XA hj]at hu
       obtain⟨q1,q2⟩:=c j u hu
       exact⟨q1.mo S.fr (fun x hx hM=>(q2 x hx).2 hM),fun x hx=>⟨(q2 x hx).1,(q2 x hx).2,q1.lt S0.ok hx⟩⟩
     . rw [List.getElem?_append_right (by omega)]at hu
       have hj2:j-ws.length=0:=by
        have:=(List.getElem?_eq_some_iff.1 hu).1
        simp at this;omega
       rw [hj2]at hu
       cases hu
       have:j=ws.length:=by omega
       subst this
       rw [a]
       exact⟨sw.mo S.fr (fun x hx hM=>(hw x hx).2 hM),fun x hx=>⟨(hw x hx).1,(hw x hx).2,sw.lt S0.ok hx⟩⟩
    refine⟨key.1,fun x hx=>⟨(key.2 x hx).1,fun hm=>?_⟩⟩
    rcases S.key_new x hm with h1|h1
    . exact(key.2 x hx).2.1 h1
    . have:=(key.2 x hx).2.2;omega
 refine eY (it lb _ hJ h2 _ ?_ ⟨[],_,S',rfl,XV _,fun i w hw=>by simp at hw,rfl⟩) ?_
 . exact⟨S'.ok,S'.fr.n,fun b hb _=>S'.gr.get b hb,fun b hb h=>by have:=(S'.key_own hb).elim (fun h=>h) (fun h=>h.elim);omega,fun b hb=>S'.key_lt hb⟩
 . rintro o rc h' ⟨rfl,u,F,rfl,ws,vR,T,a,_,c,rfl⟩
   subst hX
   refine⟨_,T.get m0,Nat.zero_ne_one,?_⟩
   have c2: ∀i w,ws[i]? =some w->aA (h'.put lb .dead) 1 (encI .i64) w (R i)/\ ∀c,av w c->m<=c/\c∉keys [(db,.dfr),(b2,.row [vR] 1)] [(vR,1,ws)]:=fun i w hw=>by
    obtain⟨q1,q2⟩:=c i w hw
    exact⟨q1.mo ((Mo.refl (M:=(· =lb)) T.ok).put (.inr rfl) .dead) (fun x hx e=>(q2 x hx).2 (by rw [e];exact m0)),fun x hx=>⟨(q2 x hx).1,fun hm=>(q2 x hx).2 (Xb _ hm)⟩⟩
   replace T:=T.dead
   have S:=T
   show Run _ _ _ _ _ _ _ _
   simp only [BS,LB,Nat.reduceLT,Nat.reduceEqDiff,Tryz.FFtb2101,S.ld (b:=b2) (o:=0) m1 rfl]
   refine ff (kw [db] _ (L:=[(b2,_)]) T.base fun h3 S3=>⟨rfl,_,rfl,?_⟩)
   refine⟨(T.fr.trans S3.fr (fun c hc=>(T.key_own hc).symm):Mo NoM h0 h3).gr,ws,?_,a,fun x hx=>?_,fun i w hw=>⟨(c2 i w hw).1.mo S3.fr (fun x hx hM=>((c2 i w hw).2 x hx).2 hM),fun x hx=>((c2 i w hw).2 x hx).1⟩⟩
   . exact(S3.gown _ m0).1.sl (flat_encV ws).symm v8 (by decide)
   . exact zP hm (((T.gblk m0 hx).1).elim (fun h=>h) (fun h=>h.elim))
theorem sb{h0:Hp}(ok:h0.t.Sized h0.n){g:FuncId}{post:Array Value}{D:Nat->Prop}{n m:Nat}{R:Nat->List Int}(it:IterP zM g post.toList h0 D n (PRow m R))(hm:m<=h0.n)(hn:n<1000):
 Ret zM 45 [.func (.func g) #[] post] h0 fun r h'=>Gr h0 h'/\gI h' m r n R:=by
 have S:=Si ok
 refine ab (n:=5) (rs:=[.tmp 2]) rfl Tryz.e45 rfl rfl rfl (lbt rfl) ?_
 simp only [BS,LB,Nat.reduceLT,Nat.reduceEqDiff]
 refine step_ret (vS S.ok it hm hn) ?_;intro v h ⟨g,L⟩;replace S:=S.call g;clear g
 simp only [BS,LB,ac,Nat.reduceLT,Nat.reduceEqDiff]
 exact⟨S.gr,L⟩
def Tryz.FFtb314:=aj Z1<|aj Z2<|aj Z0<|aj Z3<|aj Z5<|aj Z6<|aj Z10<|aj Z4<|aj Z21<|aj Z18<|aj Z86<|aj Z85<|aj Z22<|aj Z12<|Z11
def Tryz.FFtb379:=aj Z1<|aj Z2<|aj Z0<|aj Z3<|aj Z5<|aj Z4<|aj Z21<|aj Z18<|Z22
def Tryz.FFtb378:=aj Z1<|aj Z2<|aj Z0<|aj Z3<|aj Z5<|aj Z4<|aj Z21<|aj Z18<|Z22
def Tryz.FFtb3199:=aj Z1<|aj Z2<|aj Z0<|aj Z5<|aj Z4<|aj Z21<|aj Z18<|Z22
def Tryz.FFtb3200:=aj Z1<|aj Z2<|aj Z0<|aj Z5<|aj Z4<|aj Z21<|aj Z18<|Z22
open Tryz in
def Tryz.FFtb3198:=aj Z1<|aj Z2<|aj Z0<|aj Z3<|aj Z5<|aj Z4<|aj Z21<|aj Z18<|aj Z22<|aj a284<|aj s284<|aj z284<|n284
noncomputable def toR(γ:Gra)(l:List Int)(i:Nat):List Int:=jh (seen γ.arcs Arc.t Arc.s) γ.nodes (l.getD i 0).toNat
noncomputable def frR(γ:Gra)(l:List Int)(i:Nat):List Int:=jh (seen γ.arcs Arc.s Arc.t) γ.nodes (l.getD i 0).toNat
theorem tabOf_ok{h0:Hp}(ok:h0.t.Sized h0.n){γ:Gra}(hγ:Good γ){pn vl:Value}{nb:Nat}(hn:bN h0 nb pn γ){l:List Int}(hl:aA h0 1 (encI .i64) vl l)(hlen:l.length<1000):
 Ret zM 14 [pn,vl] h0 fun r h'=>Gr h0 h'/\((¬eE γ.nodes l/\r=.pointer none)\/(eE γ.nodes l/\TabAt h' h0.n r γ.nodes l (toR γ l) (frR γ l))):=by
 have S:=Si ok
 obtain⟨bp,rfl⟩: ∃b,pn=ptrTo b:=by obtain⟨b,_,_,_,_,_,e,_⟩:=hn.ex;exact⟨b,e⟩
 refine ab (n:=28) (rs:=[.tmp 4]) rfl Tryz.e14 rfl rfl rfl (lbt rfl) ?_
 simp only [BS,LB,Nat.reduceLT,Nat.reduceEqDiff,Tryz.FFtb314]
 refine au (dP S.ok (hn.gr S.gr)) ?_;intro h g;replace S:=S.call g;clear g
 simp only [BS,LB,Nat.reduceLT,Nat.reduceEqDiff]
 refine au (may_ok S.ok (hl.gr S.gr) (by omega)) ?_;intro h g;replace S:=S.call g;clear g
 by_cases hm:eE γ.nodes l
 . have hd:decide (eE γ.nodes l)=true:=decide_eq_true hm
   simp only [BS,LB,Nat.reduceLT,Nat.reduceEqDiff,hd]
   refine au (dP S.ok (hn.gr S.gr)) ?_;intro h g;replace S:=S.call g;clear g
   simp only [BS,LB,Nat.reduceLT,Nat.reduceEqDiff]
   have k1:=S.fr.n
   refine step_ret (lS S.ok (dV .i64) (hl.gr S.gr) (by omega)) ?_;intro v h ⟨g,slM,hM⟩;replace S:=S.call g;clear g
   rename Value=>vM
   obtain⟨ma,mn,mc,rfl⟩:=slM.form
   simp only [BS,LB,Nat.reduceLT,Nat.reduceEqDiff]
   refine step_ret (rows_ok S.ok dX hl.fl iq) ?_;intro v h ⟨g,b1,b2,b3,e,q1,q2,q3,y1,y2,y3⟩;replace S:=S.call g;replace slM:=slM.gr g;clear g
   subst e
   simp only [BS,LB,Nat.reduceLT,Nat.reduceEqDiff]
   have it:=rows_it ok S.ok S.gr.keep S.fr.n hn (hl.gr S.gr) (fun i hi=>⟨(hm.2 i hi).1,(hm.2 i hi).2.1⟩) hlen (runTo hγ) (m:=h0.n) S.fr.n y1 y2 y3
   refine step_ret (sb S.ok it S.fr.n hlen) ?_;intro v h ⟨g,L1⟩;replace S:=S.call g;replace slM:=slM.gr g;clear g
   rename Value=>vT
   obtain⟨ta,tn,tc,rfl⟩: ∃a n c,vT=.slice a n c:=by obtain⟨_,s,_⟩:=L1;exact s.form
   clear it y1 y2 y3 q1 q2 q3
   simp only [BS,LB,Nat.reduceLT,Nat.reduceEqDiff]
   refine step_ret (rows_ok S.ok dX hl.fl iq) ?_;intro v h ⟨g,b1,b2,b3,e,q1,q2,q3,y1,y2,y3⟩;replace S:=S.call g;replace slM:=slM.gr g;replace L1:=L1.gr g;clear g
   subst e
   simp only [BS,LB,Nat.reduceLT,Nat.reduceEqDiff]
   have it:=rows_it ok S.ok S.gr.keep S.fr.n hn (hl.gr S.gr) (fun i hi=>⟨(hm.2 i hi).1,(hm.2 i hi).2.1⟩) hlen (runFrom hγ) (m:=h0.n) S.fr.n y1 y2 y3
   refine step_ret (sb S.ok it S.fr.n hlen) ?_;intro v h ⟨g,L2⟩;replace S:=S.call g;replace slM:=slM.gr g;replace L1:=L1.gr g;clear g
   rename Value=>vF
   obtain⟨fa,fn,fc,rfl⟩: ∃a n c,vF=.slice a n c:=by obtain⟨_,s,_⟩:=L2;exact s.form
   simp only [BS,LB,Nat.reduceLT,Nat.reduceEqDiff,Nat.reduceAdd,Tryz.FFtb314]
   have Sb:=S
   replace S:=S.base
   refine ag (aZ (by intro x e;cases e)) S ?_;clear S;intro h b S n_b;simp only [an]at S
   simp only [BS,LB,ac,Nat.reduceLT,Nat.reduceEqDiff]
   have f2:=S.fr
   have slM2:=slM.mo f2 (fun c _ hm=>by cases hm)
   have L1':=L1.mo f2 (fun c hm=>by cases hm)
   have L2':=L2.mo f2 (fun c hm=>by cases hm)
   have hMt:=S.row (b:=b) m0
   replace S:=Sb.rebase S
   exact⟨S.gr,.inr ⟨hm,⟨b,_,_,_,rfl,hMt,slM2,L1',L2',(S.own _ m0).1.elim (fun h=>h) (fun h=>h.elim),fun c hc=>zP k1 (hM c hc)⟩⟩⟩
 . have hd:decide (eE γ.nodes l)=false:=decide_eq_false hm
   simp only [BS,LB,ac,Nat.reduceLT,Nat.reduceEqDiff,hd]
   exact⟨S.gr,.inl hm⟩
theorem oD{h0:Hp}(ok:h0.t.Sized h0.n){m N:Nat}{p:Value}{l:List Int}{R Q:Nat->List Int}(t:TabAt h0 m p N l R Q):bK zM 79 [p] h0 (.int .i64 N):=by
 have S:=Si ok
 obtain⟨b,vM,vT,vF,rfl,hr,_⟩:=t.ex
 have l0:=hr.load1 (o:=0) rfl
 refine ab (n:=9) (rs:=[.tmp 2]) rfl Tryz.e79 rfl rfl rfl (lbt rfl) ?_
 simp only [BS,LB,ac,Nat.reduceLT,Nat.reduceEqDiff,Tryz.FFtb379,l0]
 exact S.gr
theorem lW{h0:Hp}(ok:h0.t.Sized h0.n){m N:Nat}{p:Value}{l:List Int}{R Q:Nat->List Int}(t:TabAt h0 m p N l R Q)(hlen:l.length<1000):Ret zM 78 [p] h0 fun r h'=>Gr h0 h'/\aA h' 1 (encI .i64) r l/\ ∀c,av r c->h0.n<=c:=by
 have S:=Si ok
 obtain⟨b,vM,vT,vF,rfl,hr,sM,_⟩:=t.ex
 have l0:=hr.load1 (o:=1) rfl
 refine ab (n:=10) (rs:=[.tmp 2]) rfl Tryz.e78 rfl rfl rfl (lbt rfl) ?_
 simp only [BS,LB,Nat.reduceLT,Nat.reduceEqDiff,Tryz.FFtb378,l0]
 refine step_ret (lS S.ok (dV .i64) sM (by omega)) ?_;intro v h ⟨g,sl,hc⟩;replace S:=S.call g;clear g
 simp only [BS,LB,ac,Nat.reduceLT,Nat.reduceEqDiff]
 exact⟨S.gr,sl,hc⟩
def fD(N n:Nat)(R:Nat->List Int)(i v:Int):Int:=if 0<=i/\i<n/\0<=v/\v<N then(R i.toNat).getD v.toNat 0 else 72057594037927936
theorem tos_ok{h0:Hp}(ok:h0.t.Sized h0.n){m N:Nat}{p:Value}{l:List Int}{R Q:Nat->List Int}(t:TabAt h0 m p N l R Q):Ret zM 199 [p] h0 fun r h'=>Gr h0 h'/\gI h' m r l.length R:=by
 have S:=Si ok
 obtain⟨b,vM,vT,vF,rfl,hr,_,L,_⟩:=t.ex
 have l0:=hr.load1 (o:=2) rfl
 refine ab (n:=7) (rs:=[.tmp 2]) rfl Tryz.e199 rfl rfl rfl (lbt rfl) ?_
 simp only [BS,LB,ac,Nat.reduceLT,Nat.reduceEqDiff,Tryz.FFtb3199,l0]
 exact⟨S.gr,L⟩
theorem froms_ok{h0:Hp}(ok:h0.t.Sized h0.n){m N:Nat}{p:Value}{l:List Int}{R Q:Nat->List Int}(t:TabAt h0 m p N l R Q):Ret zM 200 [p] h0 fun r h'=>Gr h0 h'/\gI h' m r l.length Q:=by
 have S:=Si ok
 obtain⟨b,vM,vT,vF,rfl,hr,_,_,L,_⟩:=t.ex
 have l0:=hr.load1 (o:=3) rfl
 refine ab (n:=7) (rs:=[.tmp 2]) rfl Tryz.e200 rfl rfl rfl (lbt rfl) ?_
 simp only [BS,LB,ac,Nat.reduceLT,Nat.reduceEqDiff,Tryz.FFtb3200,l0]
 exact⟨S.gr,L⟩
theorem wz{h0:Hp}(ok:h0.t.Sized h0.n){m N:Nat}{p:Value}{l:List Int}{R Q W:Nat->List Int}(t:TabAt h0 m p N l R Q){g:FuncId}(hg: ∀h,Gr h0 h->Ret zM g [p] h fun r h'=>Gr h h'/\gI h' m r l.length W)(hW: ∀i,i<l.length->(W i).length=N){i v:Int}:
 bK zM 198 [p,.func (.func g) #[p] #[],.int .i64 i,.int .i64 v] h0 (.int .i64 (fD N l.length W i v)):=by
 have S:=Si ok
 obtain⟨b,vM,vT,vF,rfl,hr,sM,_⟩:=t.ex
 have l0:=hr.load1 (o:=0) rfl
 have l1:=hr.load1 (o:=1) rfl
 unfold fD
 refine ab (n:=44) (rs:=[.tmp 8]) rfl Tryz.e198 rfl rfl rfl (lbt rfl) ?_
 by_cases c1:i<0
 . rw [if_neg (by omega)]
   simp only [BS,LB,ac,Nat.reduceLT,Nat.reduceEqDiff,Tryz.FFtb3198,c1]
   exact S.gr
 . by_cases c2:(l.length:Int)<=i
   . rw [if_neg (by omega)]
     simp only [BS,LB,ac,Nat.reduceLT,Nat.reduceEqDiff,Tryz.FFtb3198,l1,c1,c2,sM.lenq]
     exact S.gr
   . by_cases c3:v<0
     . rw [if_neg (by omega)]
       simp only [BS,LB,ac,Nat.reduceLT,Nat.reduceEqDiff,Tryz.FFtb3198,l1,c1,c2,c3,sM.lenq]
       exact S.gr
     . by_cases c4:(N:Int)<=v
       . rw [if_neg (by omega)]
         simp only [BS,LB,ac,Nat.reduceLT,Nat.reduceEqDiff,Tryz.FFtb3198,l0,l1,c1,c2,c3,c4,sM.lenq]
         exact S.gr
       . rw [if_pos (by omega)]
         obtain⟨i',rfl⟩:=XG (show 0<=i by omega)
         obtain⟨v',rfl⟩:=XG (show 0<=v by omega)
         simp only [BS,LB,Nat.reduceLT,Nat.reduceEqDiff,Tryz.FFtb3198,l0,l1,c1,c2,c3,c4,sM.lenq]
         refine step_ret (hg _ S.gr) ?_;intro v h ⟨g,L⟩;replace S:=S.call g;clear g
         obtain⟨w,⟨c,o,x1,x2⟩,sw,_⟩:=L.row (i:=i') (by omega)
         have hlw:=hW i' (by omega)
         obtain⟨c',o',y1,y2⟩:=sw.ix (kd:=.i64) (dV .i64) (i:=v') (by omega)
         have gd:(W i').getD v' 0=(W i')[v']:=by simp [zN,show v'<(W i').length by omega]
         simp only [BS,LB,ac,Nat.reduceLT,Nat.reduceEqDiff,Tryz.FFtb3198,x1,x2,y1,y2,encI,zT,gd]
         exact S.gr
theorem wQ{h0:Hp}(ok:h0.t.Sized h0.n){m N:Nat}{p:Value}{l:List Int}{R Q:Nat->List Int}(t:TabAt h0 m p N l R Q)(hW: ∀i,i<l.length->(R i).length=N){i v:Int}:bK zM 135 [p,.int .i64 i,.int .i64 v] h0 (.int .i64 (fD N l.length R i v)):=by
 have S:=Si ok
 refine ab (n:=13) (rs:=[.tmp 6]) rfl Tryz.e135 rfl rfl rfl (lbt rfl) ?_
 simp only [BS,LB,Nat.reduceLT,Nat.reduceEqDiff]
 refine au (wz S.ok t (fun h g=>tos_ok g.ok (t.gr g)) hW) ?_;intro h g;replace S:=S.call g;clear g
 simp only [BS,LB,ac,Nat.reduceLT,Nat.reduceEqDiff]
 exact S.gr
theorem tD{h0:Hp}(ok:h0.t.Sized h0.n){m N:Nat}{p:Value}{l:List Int}{R Q:Nat->List Int}(t:TabAt h0 m p N l R Q)(hW: ∀i,i<l.length->(Q i).length=N){i v:Int}:bK zM 137 [p,.int .i64 i,.int .i64 v] h0 (.int .i64 (fD N l.length Q i v)):=by
 have S:=Si ok
 refine ab (n:=13) (rs:=[.tmp 6]) rfl Tryz.e137 rfl rfl rfl (lbt rfl) ?_
 simp only [BS,LB,Nat.reduceLT,Nat.reduceEqDiff]
 refine au (wz S.ok t (fun h g=>froms_ok g.ok (t.gr g)) hW) ?_;intro h g;replace S:=S.call g;clear g
 simp only [BS,LB,ac,Nat.reduceLT,Nat.reduceEqDiff]
 exact S.gr
end Go.Ab
end
section
namespace Go.Ab
theorem St.growB{M:Nat->Prop}{h0 h:Hp}{L:List (Nat×Ob)}{G:List GL}(S:St M h0 h L G){E:Env}{t tx e:TypeId}{by_ k m len b md:Nat}{zs vs new:List Value}{x:Value}(hr:Row h b vs md)(hlen:len*k=vs.length)(hu:E.und t=some (.slice e))(he:eB E e by_ k zs)(hb:0<by_)
 (hx:az E tx=some false) (hsrc:aO h k x=some (m,new)) (hm:m*k=new.length) (h1:0<m) (hk:0<k) (hsz:(vs.length+new.length)*(by_+1)<=70368744177664) {ts:List TypeId}:
 ∃h' v',cL E h (t::tx::ts) (.slice (some ⟨b,0,none⟩) len len) x=some (h',v')/\St M h0 h' L ((v',k,vs++new)::G):=by
 obtain⟨⟨i,hi,rfl,rfl⟩,hz,hl⟩:=he
 obtain⟨tr,el,hget,hsz',htr⟩:=hr
 have hcap:Nat.ble (len+m) len=false:=by
  cases hx:Nat.ble (len+m) len with
  |false=>rfl
  |true=>exact absurd (lbt hx) (by omega)
 have hmul:len+m<=vs.length+new.length:=by
  rw [<-hlen,<-hm]
  have h1:=XH len hk
  have h2:=XH m hk
  omega
 have hguard:(Nat.ble ((len+m)*(i.bytes+1)) 70368744177664&&Nat.blt 0 i.bytes)=true:=by
  rw [Nat.ble_eq_true_of_le (zP (Xk _ hmul) hsz)]
  simp only [Bool.true_and]
  rw [Nat.blt_eq];exact hb
 have hzl:Nat.beq zs.length i.size=true:=by rw [hl];exact Nat.beq_refl _
 have hgt:iQ tr vs.length 0 (len*i.size) new=some (tr.pushAll vs.length new,vs.length+new.length):=by
  unfold iQ
  rw [hlen,Nat.beq_refl vs.length]
  rfl
 refine⟨h.new (.cells (tr.pushAll vs.length new) (vs.length+new.length) e 1),.slice (some ⟨h.n,0,some i.size⟩) (len+m) (len+m),?_,S.newG (n:=len+m) ?_ ?_⟩
 . unfold cL
   simp only [hx]
   unfold iX
   simp only [hu,hi,hsrc]
   unfold eJ
   rw [hcap]
   simp only [cond_false]
   rw [hguard,hz]
   simp only [cond_true,hzl]
   unfold lZ
   simp only [hget,hgt]
 . rw [Nat.add_mul,hlen,hm,zZ]
 . refine⟨tr.pushAll vs.length new,e,?_,?_,fun n=>?_⟩
   . rw [Hp.get_new _ _ S.ok,if_pos rfl,zZ]
   . rw [zZ];exact Tr.sized_pushAll _ hsz'
   . rw [Tr.get_pushAll _ _ _ hsz',List.getElem?_append]
     split
     . exact htr n
     . rfl
end Go.Ab

end
section
namespace Go.Ab
open Go.Proofs
set_option maxRecDepth 10000
open Tryz in
def Tryz.FFbw164:=aj Z1<|aj Z2<|aj Z0<|aj Z3<|aj Z4<|aj Z21<|aj Z18<|aj Z22<|aj a180<|aj s180<|aj z180<|aj n180<|aj a212<|aj s212<|aj z212<|n212
def Tryz.FFbw126:=aj Z1<|aj Z2<|aj Z0<|aj Z3<|aj Z7<|aj Z9<|aj Z4<|aj Z21<|aj Z18<|Z22
theorem gL{h0:Hp}(ok:h0.t.Sized h0.n){m N:Nat}{p:Value}{l:List Int}{R Q:Nat->List Int}(t:TabAt h0 m p N l R Q){v:Int}:bK zM 94 [p,.int .i64 v] h0 (.bool (decide (0<=v/\v<N))):=by
 have S:=Si ok
 refine ab (n:=13) (rs:=[.tmp 4]) rfl Tryz.e94 rfl rfl rfl (lbt rfl) ?_
 by_cases c:0<=v
 . simp only [BS,LB,Nat.reduceLT,Nat.reduceEqDiff,c]
   refine au (oD S.ok (t.gr S.gr)) ?_;intro h g;replace S:=S.call g;clear g
   simp only [BS,LB,ac,Nat.reduceLT,Nat.reduceEqDiff]
   exact S.gr
 . simp only [BS,LB,ac,Nat.reduceLT,Nat.reduceEqDiff,c]
   exact⟨by simp,S.gr⟩
theorem wayTo_ok{h0:Hp}(ok:h0.t.Sized h0.n){m N:Nat}{p:Value}{l:List Int}{R Q:Nat->List Int}(t:TabAt h0 m p N l R Q)(hW: ∀i,i<l.length->(R i).length=N){i v w:Int}:
 bK zM 134 [.func (.func 135) #[p] #[],.func (.func 136) #[] #[],.int .i64 i,.int .i64 v,.int .i64 w] h0 (.int .i64 (lu (fD N l.length R i v) (fD N l.length R i w))):=by
 have S:=Si ok
 refine ab (n:=21) (rs:=[.tmp 10]) rfl Tryz.e134 rfl rfl rfl (lbt rfl) ?_
 simp only [BS,LB,Nat.reduceLT,Nat.reduceEqDiff]
 refine au (wQ S.ok (t.gr S.gr) hW) ?_;intro h g;replace S:=S.call g;clear g
 simp only [BS,LB,Nat.reduceLT,Nat.reduceEqDiff]
 refine au (wQ S.ok (t.gr S.gr) hW) ?_;intro h g;replace S:=S.call g;clear g
 simp only [BS,LB,Nat.reduceLT,Nat.reduceEqDiff]
 refine au (low_ok S.ok) ?_;intro h g;replace S:=S.call g;clear g
 simp only [BS,LB,ac,Nat.reduceLT,Nat.reduceEqDiff]
 exact S.gr
theorem wayFr_ok{h0:Hp}(ok:h0.t.Sized h0.n){m N:Nat}{p:Value}{l:List Int}{R Q:Nat->List Int}(t:TabAt h0 m p N l R Q)(hW: ∀i,i<l.length->(Q i).length=N){i v w:Int}:
 bK zM 134 [.func (.func 137) #[p] #[],.func (.func 138) #[] #[],.int .i64 i,.int .i64 v,.int .i64 w] h0 (.int .i64 (lu (fD N l.length Q i w) (fD N l.length Q i v))):=by
 have S:=Si ok
 refine ab (n:=21) (rs:=[.tmp 10]) rfl Tryz.e134 rfl rfl rfl (lbt rfl) ?_
 simp only [BS,LB,Nat.reduceLT,Nat.reduceEqDiff]
 refine au (tD S.ok (t.gr S.gr) hW) ?_;intro h g;replace S:=S.call g;clear g
 simp only [BS,LB,Nat.reduceLT,Nat.reduceEqDiff]
 refine au (tD S.ok (t.gr S.gr) hW) ?_;intro h g;replace S:=S.call g;clear g
 simp only [BS,LB,Nat.reduceLT,Nat.reduceEqDiff]
 refine au (lift_ok S.ok) ?_;intro h g;replace S:=S.call g;clear g
 simp only [BS,LB,ac,Nat.reduceLT,Nat.reduceEqDiff]
 exact S.gr
def du(N n:Nat)(R Q:Nat->List Int)(i v w:Int):Int:=if(0<=v/\v<N)/\(0<=w/\w<N)/\0<=i/\i<n then max (lu (fD N n R i v) (fD N n R i w)) (lu (fD N n Q i w) (fD N n Q i v))else 0
theorem tZ{h0:Hp}(ok:h0.t.Sized h0.n){m N:Nat}{p:Value}{l:List Int}{R Q:Nat->List Int}(t:TabAt h0 m p N l R Q)(hR: ∀i,i<l.length->(R i).length=N)(hQ: ∀i,i<l.length->(Q i).length=N)(hl:l.length<1000){i v w:Int}:
 bK zM 64 [p,.int .i64 i,.int .i64 v,.int .i64 w] h0 (.int .i64 (du N l.length R Q i v w)):=by
 have S:=Si ok
 by_cases c1:0<=v/\v<N
 . by_cases c2:0<=w/\w<N
   . by_cases c3:i<0
     . rw [show du N l.length R Q i v w=0 from if_neg (by omega)]
       refine ab (n:=43) (rs:=[.tmp 8]) rfl XL rfl rfl rfl (lbt rfl) ?_
       simp only [BS,LB,Nat.reduceLT,Nat.reduceEqDiff]
       refine au (gL S.ok (t.gr S.gr)) ?_;intro h g;replace S:=S.call g;clear g
       simp only [BS,LB,Nat.reduceLT,Nat.reduceEqDiff,c1]
       refine au (gL S.ok (t.gr S.gr)) ?_;intro h g;replace S:=S.call g;clear g
       simp only [BS,LB,ac,Nat.reduceLT,Nat.reduceEqDiff,c2,c3]
       exact S.gr
     . by_cases c4:(l.length:Int)<=i
       . rw [show du N l.length R Q i v w=0 from if_neg (by omega)]
         refine ab (n:=43) (rs:=[.tmp 8]) rfl XL rfl rfl rfl (lbt rfl) ?_
         simp only [BS,LB,Nat.reduceLT,Nat.reduceEqDiff]
         refine au (gL S.ok (t.gr S.gr)) ?_;intro h g;replace S:=S.call g;clear g
         simp only [BS,LB,Nat.reduceLT,Nat.reduceEqDiff,c1]
         refine au (gL S.ok (t.gr S.gr)) ?_;intro h g;replace S:=S.call g;clear g
         simp only [BS,LB,Nat.reduceLT,Nat.reduceEqDiff,c2,c3]
         refine step_ret (lW S.ok (t.gr S.gr) hl) ?_;intro v h ⟨g,slM,_⟩;replace S:=S.call g;clear g
         simp only [BS,LB,ac,Nat.reduceLT,Nat.reduceEqDiff,Tryz.FFbw164,c4,slM.lenq]
         exact S.gr
       . rw [show du N l.length R Q i v w=max (lu (fD N l.length R i v) (fD N l.length R i w)) (lu (fD N l.length Q i w) (fD N l.length Q i v))from if_pos ⟨c1,c2,by omega,by omega⟩]
         refine ab (n:=43) (rs:=[.tmp 8]) rfl XL rfl rfl rfl (lbt rfl) ?_
         simp only [BS,LB,Nat.reduceLT,Nat.reduceEqDiff]
         refine au (gL S.ok (t.gr S.gr)) ?_;intro h g;replace S:=S.call g;clear g
         simp only [BS,LB,Nat.reduceLT,Nat.reduceEqDiff,c1]
         refine au (gL S.ok (t.gr S.gr)) ?_;intro h g;replace S:=S.call g;clear g
         simp only [BS,LB,Nat.reduceLT,Nat.reduceEqDiff,c2,c3]
         refine step_ret (lW S.ok (t.gr S.gr) hl) ?_;intro v h ⟨g,slM,_⟩;replace S:=S.call g;clear g
         simp only [BS,LB,Nat.reduceLT,Nat.reduceEqDiff,Tryz.FFbw164,c4,slM.lenq]
         refine au (wayTo_ok S.ok (t.gr S.gr) hR) ?_;intro h g;replace S:=S.call g;clear g
         simp only [BS,LB,Nat.reduceLT,Nat.reduceEqDiff]
         refine au (wayFr_ok S.ok (t.gr S.gr) hQ) ?_;intro h g;replace S:=S.call g;clear g
         simp only [BS,LB,ac,Nat.reduceLT,Nat.reduceEqDiff]
         exact S.gr
   . rw [show du N l.length R Q i v w=0 from if_neg (fun h=>c2 h.2.1)]
     refine ab (n:=43) (rs:=[.tmp 8]) rfl XL rfl rfl rfl (lbt rfl) ?_
     simp only [BS,LB,Nat.reduceLT,Nat.reduceEqDiff]
     refine au (gL S.ok (t.gr S.gr)) ?_;intro h g;replace S:=S.call g;clear g
     simp only [BS,LB,Nat.reduceLT,Nat.reduceEqDiff,c1]
     refine au (gL S.ok (t.gr S.gr)) ?_;intro h g;replace S:=S.call g;clear g
     simp only [BS,LB,ac,Nat.reduceLT,Nat.reduceEqDiff,c2]
     exact S.gr
 . rw [show du N l.length R Q i v w=0 from if_neg (fun h=>c1 h.1)]
   refine ab (n:=43) (rs:=[.tmp 8]) rfl XL rfl rfl rfl (lbt rfl) ?_
   simp only [BS,LB,Nat.reduceLT,Nat.reduceEqDiff]
   refine au (gL S.ok (t.gr S.gr)) ?_;intro h g;replace S:=S.call g;clear g
   simp only [BS,LB,ac,Nat.reduceLT,Nat.reduceEqDiff,c1]
   exact S.gr
def cQ(N n:Nat)(R Q:Nat->List Int)(v w:Int)(l:List Int):Int:=l.foldl (fun b i=>max b (du N n R Q i v w)) 0
theorem w7{h0:Hp}(ok:h0.t.Sized h0.n){m N:Nat}{p:Value}{l:List Int}{R Q:Nat->List Int}(t:TabAt h0 m p N l R Q)(hR: ∀i,i<l.length->(R i).length=N)(hQ: ∀i,i<l.length->(Q i).length=N)(hl:l.length<1000){va:Value}{act:List Int}(ha:aA h0 1 (encI .i64) va act)(hal:act.length<1000){v w:Int}:
 bK zM 26 [p,va,.int .i64 v,.int .i64 w] h0 (.int .i64 (cQ N l.length R Q v w act)):=by
 have S:=Si ok
 refine ab (n:=26) (rs:=[.tmp 8]) rfl Tryz.e26 rfl rfl rfl (lbt rfl) ?_
 simp only [BS,LB,Nat.reduceLT,Nat.reduceEqDiff,Tryz.FFbw126,ha.lenq]
 refine bA (fun(k:Nat) ρ h=>k<=act.length/\Gr h0 h/\ρ 0=p/\ρ 2=.int .i64 v/\ρ 3=.int .i64 w/\ρ 8=.int .i64 (cQ N l.length R Q v w (act.take k))/\ρ 11=va/\ρ 12=.int .i64 act.length/\ρ 13=.int .i64 k) (fun k=>act.length-k) ?_ 0 _ _ ?_
 . clear S
   intro k ih ρ h ⟨hk,g0,r0,r2,r3,r8,r11,r12,r13⟩
   have wk:aq .i64 ((k:Int)+1)=((k+1:Nat):Int):=by rw [wrap64]<;>omega
   by_cases hlt:k<act.length
   . obtain⟨c,o,hidx,hld⟩:=(ha.gr g0).ix (kd:=.i64) (dV .i64) hlt
     simp only [BS,LB,Nat.reduceLT,Nat.reduceEqDiff,Tryz.FFbw126,r0,r2,r3,r8,r11,r12,r13,aP,hlt,hidx,hld,encI]
     refine au (tZ g0.ok (t.gr g0) hR hQ hl) ?_
     intro h g
     simp only [BS,LB,Nat.reduceLT,Nat.reduceEqDiff,r13,wk]
     refine ih (k+1) _ _ (by omega) ⟨by omega,g0.trans g,by simp [aa,r0],by simp [aa,r2],by simp [aa,r3],?_,by simp [aa,r11],by simp [aa,r12],by simp [aa]⟩
     rw [Xq hlt]
     unfold cQ
     rw [List.foldl_append]
     simp [aa]
   . simp only [BS,LB,ac,Nat.reduceLT,Nat.reduceEqDiff,r8,r12,r13,aP,hlt]
     rw [Xo (by omega)]
     exact⟨rfl,g0⟩
 . exact⟨XV _,S.gr,by simp [aa,bn],by simp [aa,bn,ce],by simp [aa,bn,ce],by simp [aa,cQ],by simp [aa],by simp [aa],by simp [aa]⟩
theorem exTo{h0:Hp}(ok:h0.t.Sized h0.n){γ:Gra}(hγ:Good γ){pn:Value}{nb:Nat}(hn:bN h0 nb pn γ){s:Nat}(hs:s<γ.nodes)(v:Nat):IsD (seen γ.arcs Arc.t Arc.s) s v (dOf (seen γ.arcs Arc.t Arc.s) s v):=by
 obtain⟨_,_,_,_,_,_,_,D,_,_,_,_,_,_,_,hD,_⟩:=sN ok hγ hn hs
 exact(dOf_is (hD v)).2
theorem exFrom{h0:Hp}(ok:h0.t.Sized h0.n){γ:Gra}(hγ:Good γ){pn:Value}{nb:Nat}(hn:bN h0 nb pn γ){s:Nat}(hs:s<γ.nodes)(v:Nat):IsD (seen γ.arcs Arc.s Arc.t) s v (dOf (seen γ.arcs Arc.s Arc.t) s v):=by
 obtain⟨_,_,_,_,_,_,_,D,_,_,_,_,_,_,_,hD,_⟩:=qf ok hγ hn hs
 exact(dOf_is (hD v)).2
theorem jn(B:List Arc)(N s:Nat):(jh B N s).length=N:=by simp [jh]
theorem rowD_at{B:List Arc}{N s v:Nat}(hv:v<N):(jh B N s).getD v 0=(dOf B s v:Nat):=by simp [jh,zN,hv]
theorem mY{γ:Gra}{l:List Int}{i v:Nat}(hi:i<l.length)(hv:v<γ.nodes):fD γ.nodes l.length (toR γ l) i v=(dOf (seen γ.arcs Arc.t Arc.s) (l.getD i 0).toNat v:Nat):=by
 unfold fD
 rw [if_pos ⟨by omega,by omega,by omega,by omega⟩,zT,zT]
 exact rowD_at hv
theorem mX{γ:Gra}{l:List Int}{i v:Nat}(hi:i<l.length)(hv:v<γ.nodes):fD γ.nodes l.length (frR γ l) i v=(dOf (seen γ.arcs Arc.s Arc.t) (l.getD i 0).toNat v:Nat):=by
 unfold fD
 rw [if_pos ⟨by omega,by omega,by omega,by omega⟩,zT,zT]
 exact rowD_at hv
theorem jo{a b:Nat}(ha:a<=72057594037927936)(hb:b<=72057594037927936):lu (a:Int) (b:Int)=if b<72057594037927936 then(if a<72057594037927936 then max 0 ((a:Int)-b)else 72057594037927936)else 0:=by
 unfold lu wy
 repeat' split
 all_goals omega
theorem uL(A:List Arc): ∀a∈seen A Arc.s Arc.t,∃b∈seen A Arc.t Arc.s,b.s=a.t/\b.t=a.s/\b.w=a.w:=by
 intro a ha
 obtain⟨i,hi,e⟩:=w5 ha
 have e1:=(oL (fs:=Arc.s) (ft:=Arc.t) hi).1
 obtain⟨e2,e3⟩:=oL (fs:=Arc.t) (ft:=Arc.s) hi
 refine⟨_,e3,?_⟩
 rw [e2,<-e,e1]
 exact⟨rfl,rfl,rfl⟩
theorem jm(γ:Gra):seen γ.arcs Arc.s Arc.t=γ.arcs:=by
 unfold seen
 exact(XQ (fun a _=>rfl)).trans (List.map_id _)
end Go.Ab
end
section
namespace Go.Ab
theorem St.toL{M:Nat->Prop}{h0 h:Hp}{L:List (Nat×Ob)}{v:Value}{vs:List Value}(S:St M h0 h L [(v,1,vs)])(hne:vs≠ []): ∃b,v=.slice (some ⟨b,0,some 1⟩) vs.length vs.length/\St M h0 h ((b,.row vs 1)::L) []:=by
 obtain⟨g,k⟩:=S.gown _ (List.mem_singleton.2 rfl)
 rcases g with⟨_,e⟩|⟨b,n,e1,e2,e3⟩
 . exact absurd e hne
 . have en:n=vs.length:=by rw [<-show n*1=vs.length from e2,Xl]
   subst en
   have ev:v=.slice (some ⟨b,0,some 1⟩) vs.length vs.length:=e1
   have hk:dN (v,1,vs)=some b:=by rw [ev];rfl
   have ap:=S.apart
   have nb:b∉L.map Prod.fst:=by
    have h1:=ap
    unfold keys at h1
    rw [List.nodup_append]at h1
    exact fun hc=>h1.2.2 b hc b (List.mem_filterMap.2 ⟨_,List.mem_singleton.2 rfl,hk⟩) rfl
   refine⟨b,ev,St.push (St.sub S (List.Sublist.refl _) (List.nil_sublist _)) (k b hk) e3 ?_⟩
   simpa [keys]using nb
def jV(N:Nat)(l:Nat->Nat):List Value:=(zQ N).map fun v=>.int .i64 (l v:Nat)
theorem wK{N:Nat}{l:Nat->Nat}{v:Nat}(h:v<N):(jV N l)[v]? =some (.int .i64 (l v:Nat)):=jE (F:=fun v=>Value.int .i64 ((l v:Nat):Int)) h
theorem uh(N:Nat)(l:Nat->Nat):(jV N l).length=N:=by simp [jV]
theorem uv{N:Nat}{l:Nat->Nat}{v x:Nat}:(jV N l).set v (.int .i64 (x:Nat))=jV N (dU l v x):=by
 have:=j5 (N:=N) (k:=v) (F:=fun v=>Value.int .i64 ((l v:Nat):Int)) (F':=fun u=>Value.int .i64 ((dU l v x u:Nat):Int)) (fun u _ hu=>by unfold dU;rw [if_neg hu])
 unfold jV
 rw [<-this]
 simp [dU]
def Rlx(B:List Arc)(k:Nat)(l:Nat->Nat):Prop:= ∀j,j<k->l (B.getD j default).s<FAR->l (B.getD j default).t<=l (B.getD j default).s+(B.getD j default).w
theorem rlx_all{B:List Arc}{l:Nat->Nat}(h:Rlx B B.length l): ∀a∈B,l a.s<FAR->l a.t<=l a.s+a.w:=by
 intro a ha
 obtain⟨i,hi,e⟩:=List.mem_iff_getElem.1 ha
 have:=h i hi
 rwa [zN,zS hi,Xj,e]at this
end Go.Ab

end
section
namespace Go.Ab
structure Ev2 where
 kind:Nat
 side:Bool
 id:Nat
 lab:Nat
structure Sd where
 K:Nat->Option Int
 L:Nat->Option Nat
 P:Nat->List Nat
 O:List Nat
structure Bi where
 sd:Bool->Sd
 ev:List Ev2
 dist:Nat
 meet:Nat
def fsB(i:Bool):Arc->Nat:=if i then Arc.t else Arc.s
def ftB(i:Bool):Arc->Nat:=if i then Arc.s else Arc.t
def qB(pi:Nat->Int)(i:Bool)(v:Nat):Int:=if i then-pi v else pi v
def OpB(pi:Nat->Int)(v:Nat):Prop:= -(FAR:Int)<pi v/\pi v<(FAR:Int)
instance (pi:Nat->Int)(v:Nat):Decidable (OpB pi v):=by unfold OpB;infer_instance
def cC(f:Bool->Sd)(i:Bool)(x:Sd):Bool->Sd:=fun j=>if j=i then x else f j
def leO(o:Option Nat)(lab:Nat):Bool:=match o with
 |some w=>decide (w<=lab)
 |none=>false
def mH(o:Option Nat)(σ:Bi)(v lab:Nat):Bi:=match o with
 |some m=>if lab+m<σ.dist then⟨σ.sd,σ.ev,lab+m,v⟩else σ
 |none=>σ
def dh(pi:Nat->Int)(x:Sd)(i:Bool)(v lab:Nat)(p:List Nat):Sd:=⟨bZ x.K v (some (2*lab+qB pi i v)),fun u=>if u=v then some lab else x.L u,updP x.P v p,x.O⟩
def aU(pi:Nat->Int)(i:Bool)(σ:Bi)(v lab:Nat)(p:List Nat):Bi:=
 if v∈(σ.sd i).O\/ ¬OpB pi v\/leO ((σ.sd i).L v) lab=true then σ else mH ((σ.sd (!i)).L v) ⟨cC σ.sd i (dh pi (σ.sd i) i v lab p),σ.ev,σ.dist,σ.meet⟩ v lab
def je(σ:Bi)(i:Bool)(v:Nat):Nat:=((σ.sd i).L v).getD 0
def evB(σ:Bi)(e:Ev2):Bi:=⟨σ.sd,σ.ev++[e],σ.dist,σ.meet⟩
def aV(σ:Bi)(i:Bool)(v:Nat):Bi:=⟨cC σ.sd i ⟨bZ (σ.sd i).K v none,(σ.sd i).L,(σ.sd i).P,(σ.sd i).O++[v]⟩,σ.ev++[⟨0,i,v,je σ i v⟩],σ.dist,σ.meet⟩
def co(A:List Arc)(al:Nat->Bool)(pi:Nat->Int)(i:Bool)(v:Nat)(σ:Bi)(a:Nat):Bi:=
 if al a=true then aU pi i (evB σ ⟨1,i,a,0⟩) (ftB i (A.getD a default)) (je σ i v+(A.getD a default).w) (a::(σ.sd i).P v)else σ
def fG(A:List Arc)(al:Nat->Bool)(pi:Nat->Int)(i:Bool)(v:Nat)(σ:Bi):Bi:=(outs A (fsB i) A.length v).foldl (co A al pi i v) σ
def cR:Sd:=⟨fun _=>none,fun _=>none,fun _=>[],[]⟩
def ip(pi:Nat->Int)(s t:Nat):Bi:=aU pi true (aU pi false ⟨fun _=>cR,[],FAR,0⟩ s 0 []) t 0 []
def StopB(σ:Bi):Prop:=(∃i,∀v,(σ.sd i).K v=none)\/ ∃v k u l,iA (σ.sd false).K v k/\iA (σ.sd true).K u l/\2*(σ.dist:Int)<=k+l
def TurnB(σ:Bi)(i:Bool):Prop:= ∃v k u l,iA (σ.sd false).K v k/\iA (σ.sd true).K u l/\k+l<2*(σ.dist:Int)/\i=decide (l<k)
inductive jI(A:List Arc)(al:Nat->Bool)(pi:Nat->Int):Bi->Bi->Prop where
 |stop {σ:Bi}:StopB σ->jI A al pi σ σ
 |step {σ τ:Bi} {i:Bool} {v:Nat} {k:Int}:TurnB σ i->iA (σ.sd i).K v k->jI A al pi (fG A al pi i v (aV σ i v)) τ->jI A al pi σ τ
theorem dg{f:Bool->Sd}{i:Bool}{x:Sd}:cC f i x i=x:=if_pos rfl
theorem j6{f:Bool->Sd}{i:Bool}{x:Sd}:cC f i x (!i)=f (!i):=if_neg (by cases i<;>decide)
theorem tO{f:Bool->Sd}{i j:Bool}{x:Sd}(h:j≠i):cC f i x j=f j:=if_neg h
theorem kU{o:Option Nat}{σ:Bi}{v lab:Nat}:(mH o σ v lab).sd=σ.sd/\(mH o σ v lab).ev=σ.ev:=by
 unfold mH
 split
 . split<;>exact⟨rfl,rfl⟩
 . exact⟨rfl,rfl⟩
section
variable{A:List Arc}{N:Nat}{al:Nat->Bool}{pi:Nat->Int}{σ:Bi}{rt:Bool->Nat}
structure SvB(A:List Arc)(N r:Nat)(al:Nat->Bool)(pi:Nat->Int)(i:Bool)(x:Sd):Prop where
 nd:x.O.Nodup
 lt: ∀v∈x.O,v<N/\x.L v≠none
 op: ∀v k,x.K v=some k->v∉x.O/\ ∃l,x.L v=some l/\k=2*(l:Int)+qB pi i v
 lab: ∀v l,x.L v=some l->v<N/\OpB pi v/\l<=x.O.length*bz/\(x.P v).length<=x.O.length/\(v∈x.O\/x.K v≠none)
 path: ∀v l,x.L v=some l->(v=r/\x.P v=[]/\l=0)\/ ∃a m,a<A.length/\al a=true/\ftB i (A.getD a default)=v/\fsB i (A.getD a default)∈x.O/\x.P v=a::x.P (fsB i (A.getD a default))/\x.L (fsB i (A.getD a default))=some m/\l=m+(A.getD a default).w
structure BiI(A:List Arc)(N:Nat)(rt:Bool->Nat)(al:Nat->Bool)(pi:Nat->Int)(σ:Bi):Prop where
 sv: ∀i,SvB A N (rt i) al pi i (σ.sd i)
 dm:(σ.dist=FAR/\ ∀i v x,(σ.sd i).L v=some x->(σ.sd (!i)).L v=none)\/(∀i,∃x y,(σ.sd i).L σ.meet=some x/\(σ.sd (!i)).L σ.meet=some y/\σ.dist=x+y)
 le: ∀i v x y,(σ.sd i).L v=some x->(σ.sd (!i)).L v=some y->σ.dist<=x+y
theorem SvB.len{r:Nat}{i:Bool}{x:Sd}(h:SvB A N r al pi i x):x.O.length<=N:=nu N x.O h.nd (fun v hv=>(h.lt v hv).1)
theorem ng{i j:Bool}(h:j≠i):j= !i:=by cases i<;>cases j<;>first|rfl|exact absurd rfl h
theorem not_ne{i:Bool}:(!i)≠i:=by cases i<;>decide
theorem SvB.put{r v lab:Nat}{b:Bool}{x:Sd}{p:List Nat}(h:SvB A N r al pi b x)(hv:v∉x.O)(hop:OpB pi v)(hN:v<N)(b1:lab<=x.O.length*bz)(b2:p.length<=x.O.length)
 (hp:(v=r/\p=[]/\lab=0)\/ ∃a m,a<A.length/\al a=true/\ftB b (A.getD a default)=v/\fsB b (A.getD a default)∈x.O/\p=a::x.P (fsB b (A.getD a default))/\x.L (fsB b (A.getD a default))=some m/\lab=m+(A.getD a default).w):
 SvB A N r al pi b (dh pi x b v lab p):=by
 have ne: ∀{u},u∈x.O->u≠v:=fun hu e=>hv (e▸hu)
 have eL: ∀{u},u≠v->(dh pi x b v lab p).L u=x.L u:=fun h=>if_neg h
 have eK: ∀{u},u≠v->(dh pi x b v lab p).K u=x.K u:=fun h=>if_neg h
 have eP: ∀{u},u≠v->(dh pi x b v lab p).P u=x.P u:=fun h=>if_neg h
 have vL:(dh pi x b v lab p).L v=some lab:=if_pos rfl
 have vK:(dh pi x b v lab p).K v=some (2*(lab:Int)+qB pi b v):=if_pos rfl
 have vP:(dh pi x b v lab p).P v=p:=if_pos rfl
 refine⟨h.nd,fun u hu=>⟨(h.lt u hu).1,by rw [eL (ne hu)];exact(h.lt u hu).2⟩,fun u k hk=>?_,fun u l hl=>?_,fun u l hl=>?_⟩
 . by_cases e:u=v
   . subst e;rw [vK]at hk;cases hk;exact⟨hv,lab,vL,rfl⟩
   . rw [eK e]at hk;rw [eL e];exact h.op u k hk
 . by_cases e:u=v
   . subst e;rw [vL]at hl;cases hl
     exact⟨hN,hop,b1,by rw [vP];exact b2,.inr (by rw [vK];nofun)⟩
   . rw [eL e]at hl;rw [eK e,eP e];exact h.lab u l hl
 . by_cases e:u=v
   . subst e;rw [vL]at hl;cases hl
     rw [vP]
     rcases hp with hp|⟨a,m,a1,a2,a3,a4,a5,a6,a7⟩
     . exact .inl hp
     . exact .inr ⟨a,m,a1,a2,a3,a4,by rw [eP (ne a4)];exact a5,by rw [eL (ne a4)];exact a6,a7⟩
   . rw [eL e]at hl;rw [eP e]
     rcases h.path u l hl with hp|⟨a,m,a1,a2,a3,a4,a5,a6,a7⟩
     . exact .inl hp
     . exact .inr ⟨a,m,a1,a2,a3,a4,by rw [eP (ne a4)];exact a5,by rw [eL (ne a4)];exact a6,a7⟩
theorem BiI.reach {b:Bool} {v lab:Nat} {p:List Nat} (hN12:N<=12) (h:BiI A N rt al pi σ) (hN:v<N) (b1:lab<=(σ.sd b).O.length*bz) (b2:p.length<=(σ.sd b).O.length)
 (hp:(v=rt b/\p=[]/\lab=0)\/ ∃a m,a<A.length/\al a=true/\ftB b (A.getD a default)=v/\fsB b (A.getD a default)∈(σ.sd b).O/\p=a::(σ.sd b).P (fsB b (A.getD a default))/\(σ.sd b).L (fsB b (A.getD a default))=some m/\lab=m+(A.getD a default).w):
 BiI A N rt al pi (aU pi b σ v lab p):=by
 unfold aU
 split
 . exact h
 . rename_i hc
   simp only [not_or,Decidable.not_not]at hc
   obtain⟨hv,hop,hle⟩:=hc
   have hsv: ∀i,SvB A N (rt i) al pi i (cC σ.sd b (dh pi (σ.sd b) b v lab p) i):=fun i=>by
    by_cases e:i=b
    . subst e;rw [dg];exact(h.sv i).put hv hop hN b1 b2 hp
    . rw [tO e];exact h.sv i
   have eN: ∀u,(cC σ.sd b (dh pi (σ.sd b) b v lab p) (!b)).L u=(σ.sd (!b)).L u:=fun u=>by rw [j6]
   have eV:(cC σ.sd b (dh pi (σ.sd b) b v lab p) b).L v=some lab:=by rw [dg];exact if_pos rfl
   have eU: ∀{u},u≠v->(cC σ.sd b (dh pi (σ.sd b) b v lab p) b).L u=(σ.sd b).L u:=fun {u} e=>by rw [dg];exact if_neg e
   -- the smaller facts, for side b and its opposite
   have lt:=h.sv b
   have far:=gO
   have wm:=kD
   have small: ∀{i u l},(σ.sd i).L u=some l->l<=12*bz:=fun {i u l} hl=>by
    have h1:=((h.sv i).lab u l hl).2.2.1
    have h2:=Xk bz (zP (h.sv i).len hN12)
    omega
   have labs:lab<=12*bz:=by
    have h2:=Xk bz (zP lt.len hN12)
    omega
   have both: ∀{P:Bool->Prop},P b->P (!b)-> ∀i,P i:=fun {P} p1 p2 i=>by
    by_cases e:i=b
    . subst e;exact p1
    . rw [ng e];exact p2
   have nn:(!(!b))=b:=by cases b<;>rfl
   cases ho:(σ.sd (!b)).L v with
   | none =>
     unfold mH
     simp only []
     refine⟨hsv,?_,?_⟩
     . rcases h.dm with⟨d1,d2⟩|d
       . refine .inl ⟨d1,both (P:=fun i=> ∀u x,(cC σ.sd b (dh pi (σ.sd b) b v lab p) i).L u=some x->(cC σ.sd b (dh pi (σ.sd b) b v lab p) (!i)).L u=none) (fun u x hx=>?_) (fun u x hx=>?_)⟩
         . rw [eN]
           by_cases e:u=v
           . subst e;exact ho
           . rw [eU e]at hx;exact d2 b u x hx
         . rw [eN]at hx
           rw [nn]
           by_cases e:u=v
           . subst e;rw [ho]at hx;cases hx
           . rw [eU e];have:=d2 (!b) u x hx;rwa [nn]at this
       . have hm:σ.meet≠v:=fun e=>by
          obtain⟨x,y,_,h2,_⟩:=d b
          rw [e,ho]at h2;cases h2
         refine .inr (both (P:=fun i=> ∃x y,(cC σ.sd b (dh pi (σ.sd b) b v lab p) i).L σ.meet=some x/\(cC σ.sd b (dh pi (σ.sd b) b v lab p) (!i)).L σ.meet=some y/\σ.dist=x+y) ?_ ?_)
         . obtain⟨x,y,h1,h2,h3⟩:=d b
           exact⟨x,y,by rw [eU hm];exact h1,by rw [eN];exact h2,h3⟩
         . obtain⟨x,y,h1,h2,h3⟩:=d (!b)
           rw [nn]at h2
           exact⟨x,y,by rw [eN];exact h1,by rw [nn,eU hm];exact h2,h3⟩
     . refine both (P:=fun i=> ∀u x y,(cC σ.sd b (dh pi (σ.sd b) b v lab p) i).L u=some x->(cC σ.sd b (dh pi (σ.sd b) b v lab p) (!i)).L u=some y->σ.dist<=x+y) (fun u x y hx hy=>?_) (fun u x y hx hy=>?_)
       . rw [eN]at hy
         by_cases e:u=v
         . subst e;rw [ho]at hy;cases hy
         . rw [eU e]at hx;exact h.le b u x y hx hy
       . rw [eN]at hx
         rw [nn]at hy
         by_cases e:u=v
         . subst e;rw [ho]at hx;cases hx
         . rw [eU e]at hy;exact h.le (!b) u x y hx (by rw [nn];exact hy)
   | some m =>
     have sm:=small ho
     have vB: ∀{i:Bool} {u x y:Nat},(cC σ.sd b (dh pi (σ.sd b) b v lab p) i).L u=some x->(cC σ.sd b (dh pi (σ.sd b) b v lab p) (!i)).L u=some y->(u=v/\x+y=lab+m)\/(u≠v/\σ.dist<=x+y):=fun {i u x y} hx hy=>by
      by_cases e:u=v
      . subst e
        refine .inl ⟨rfl,?_⟩
        by_cases ei:i=b
        . subst ei;rw [eV]at hx;rw [eN,ho]at hy;cases hx;cases hy;rfl
        . rw [ng ei]at hx hy
          rw [eN,ho]at hx;rw [nn,eV]at hy;cases hx;cases hy;exact Nat.add_comm _ _
      . refine .inr ⟨e,?_⟩
        by_cases ei:i=b
        . subst ei;rw [eU e]at hx;rw [eN]at hy;exact h.le i u x y hx hy
        . rw [ng ei]at hx hy
          rw [eN]at hx;rw [nn,eU e]at hy
          exact h.le (!b) u x y hx (by rw [nn];exact hy)
     unfold mH
     simp only []
     split
     . rename_i hlt
       refine⟨hsv,.inr (both (P:=fun i=> ∃x y,(cC σ.sd b (dh pi (σ.sd b) b v lab p) i).L v=some x/\(cC σ.sd b (dh pi (σ.sd b) b v lab p) (!i)).L v=some y/\lab+m=x+y) ⟨lab,m,eV,by rw [eN];exact ho,rfl⟩ ⟨m,lab,by rw [eN];exact ho,by rw [nn];exact eV,Nat.add_comm _ _⟩),fun i u x y hx hy=>?_⟩
       have hlt:lab+m<σ.dist:=hlt
       show lab+m<=x+y
       rcases vB hx hy with⟨_,h⟩|⟨_,h⟩<;>omega
     . rename_i hge
       have hge: ¬lab+m<σ.dist:=hge
       have hold: ∀x,(σ.sd b).L v=some x->lab<x:=fun x hx=>by
        rw [hx]at hle
        simp only [leO,decide_eq_true_eq]at hle
        omega
       refine⟨hsv,?_,fun i u x y hx hy=>?_⟩
       . rcases h.dm with⟨d1,d2⟩|d
         . omega
         . have hm:σ.meet≠v:=fun e=>by
            obtain⟨x,y,h1,h2,h3⟩:=d b
            rw [e]at h1 h2
            rw [ho]at h2;cases h2
            have:=hold x h1
            omega
           refine .inr (both (P:=fun i=> ∃x y,(cC σ.sd b (dh pi (σ.sd b) b v lab p) i).L σ.meet=some x/\(cC σ.sd b (dh pi (σ.sd b) b v lab p) (!i)).L σ.meet=some y/\σ.dist=x+y) ?_ ?_)
           . obtain⟨x,y,h1,h2,h3⟩:=d b
             exact⟨x,y,by rw [eU hm];exact h1,by rw [eN];exact h2,h3⟩
           . obtain⟨x,y,h1,h2,h3⟩:=d (!b)
             rw [nn]at h2
             exact⟨x,y,by rw [eN];exact h1,by rw [nn,eU hm];exact h2,h3⟩
       . show σ.dist<=x+y
         rcases vB hx hy with⟨_,h⟩|⟨_,h⟩<;>omega
end
end Go.Ab

end

/- Nets, cells, flags: what the functions do (part 1). -/
import Derived.Test.YtfdopodkngggfaaGreatDoorEnv
open Go.Ab.Tryz
open Go.Ab.Tryz renaming abEnv->zM
open List renaming getD_eq_getElem?_getD->zO,mem_of_getElem?->Xb,getElem?_append_right->Xc,nodup_append->Xd,getElem?_append_left->Xe,mem_map_of_mem->Xf,map_append->Xi,range->Xk,length_take->Xm,ext_getElem?->Xo,getElem?_set->Xp,getElem?_map->Xq,getElem?_replicate->Xr,length_set->Xs,map_cons->Xt,length_cons->Xv,getElem?_eq_getElem->Xx,mem_cons->Xy,length_append->Xz,replicate->XC,take->XD,drop->XE,not_mem_nil->XF,take_succ_cons->XH,length_flatMap->XI,nodup_cons->XJ,getElem_mem->XL,length_replicate->XN,getElem?_append->XO,map_const'->XP,take_zero->XQ,drop_zero->XR,drop_eq_getElem_cons->XU,filter_cons->XV,getElem?_take_of_lt->XW,range_succ->X2,mem_append->X3,length_nil->X4,getElem?_eq_none->X6,mem_range->X7,flatMap_eq_foldl->X9,flatMap_append->Yb,drop_succ_cons->Yc
open And renaming intro->Xa
open Prod renaming fst->Xg
open Nat renaming ble_eq_true_of_le->Xh,zero_add->Xl,zero_mul->Xn,mul_one->Xu,le_trans->Xw,le_refl->XA,beq->XB,one_mul->XG,ble->XM,lt_of_succ_le->XT,beq_refl->XX,add_zero->XY,min_eq_left->X5,eq_of_beq_eq_true->X8,blt_eq->Ya,sub_zero->Yd
open Int renaming cast_ofNat_Int->Xj,tmod_eq_emod_of_nonneg->XS
open Option renaming isSome_none->XK,getD_some->XZ
set_option maxHeartbeats 4000000
set_option linter.defProp false
set_option linter.unusedVariables false
set_option linter.unusedSimpArgs false
section
namespace Go.Ab
theorem Si{h:Hp}(a:h.t.Sized h.n):St NoM h h [] []:=St.init a
theorem aj{a b:Prop}(x:a)(y:b):a/\b:=⟨x,y⟩
set_option linter.defProp false in
def LC:=Xa @List.set_cons_zero.{0}<|Xa @List.set_cons_succ.{0}<|Xa @List.cons_append.{0}<|Xa @List.nil_append.{0}<|Xa @List.append_nil.{0}<|Xa @List.length_cons.{0}<|Xa @List.length_nil.{0}<|@Nat.add_zero
theorem lbt{a b:Nat}(h:XM a b=true):a<=b:=Nat.le_of_ble_eq_true h
theorem ono:(1:Nat)≠0:=Nat.one_ne_zero
set_option linter.defProp false in
def LB:=Xa @if_true.{1}<|Xa @if_false.{1}<|Xa @eq_self.{1}<|Xa @List.map_cons.{0,0}<|Xa @List.map_nil.{0,0}<|Xa @List.append_nil.{0}<|Xa @List.nil_append.{0}<|Xa @List.cons_append.{0}<|Xa @List.getElem?_cons_zero.{0}<|Xa @List.getElem?_cons_succ.{0}<|Xa @List.set_cons_zero.{0}<|Xa @List.set_cons_succ.{0}<|Xa @List.length_cons.{0}<|Xa @List.length_nil.{0}<|Xa @Nat.add_zero<|Xa @Nat.zero_add<|Xa @Nat.mul_one<|Xa @Nat.zero_mul<|Xa @cond_true.{1}<|Xa @cond_false.{1}<|Xa @decide_true<|Xa @decide_false<|Xa @Bool.and_true<|Xa @Bool.and_false<|Xa @Bool.not_false<|Xa @Bool.not_true<|Xa @true_and<|Xa @and_true<|Xa @Option.isSome_some.{0}<|@List.map_toArray.{0,0}
open Go.Proofs
namespace Tryz
abbrev TQ0(i:TypeId)(A:Bool)(S:Nat)(Z:List Value):Prop:=zM.agg i=some A/\zM.sz i=some S/\zM.zero i=some Z/\dE zM i=some false
theorem kTQ0{i:TypeId}{A:Bool}{S:Nat}{Z:List Value}(h:(zM.agg i,zM.sz i,zM.zero i,dE zM i)=(some A,some S,some Z,some false)):TQ0 i A S Z:=by simpa only [Prod.mk.injEq]using h
abbrev TQ1(i:TypeId)(U:TypeDesc)(A:Bool)(S:Nat)(Z:List Value):Prop:=zM.und i=some U/\zM.agg i=some A/\zM.sz i=some S/\zM.zero i=some Z/\jZ zM i=true
theorem kTQ1{i:TypeId}{U:TypeDesc}{A:Bool}{S:Nat}{Z:List Value}(h:(zM.und i,zM.agg i,zM.sz i,zM.zero i,jZ zM i)=(some U,some A,some S,some Z,true)):TQ1 i U A S Z:=by simpa only [Prod.mk.injEq]using h
abbrev TQ2(i:TypeId)(U:TypeDesc)(A:Bool)(S:Nat)(Z:List Value):Prop:=zM.und i=some U/\zM.agg i=some A/\zM.sz i=some S/\zM.zero i=some Z/\dE zM i=some false
theorem kTQ2{i:TypeId}{U:TypeDesc}{A:Bool}{S:Nat}{Z:List Value}(h:(zM.und i,zM.agg i,zM.sz i,zM.zero i,dE zM i)=(some U,some A,some S,some Z,some false)):TQ2 i U A S Z:=by simpa only [Prod.mk.injEq]using h
abbrev TQ3(i:TypeId)(A:Bool)(S:Nat)(Z:List Value)(P:List (Nat×Nat)):Prop:=zM.agg i=some A/\zM.sz i=some S/\zM.zero i=some Z/\jZ zM i=true/\dE zM i=some false/\placesOf zM i=some P
theorem kTQ3{i:TypeId}{A:Bool}{S:Nat}{Z:List Value}{P:List (Nat×Nat)}(h:(zM.agg i,zM.sz i,zM.zero i,jZ zM i,dE zM i,placesOf zM i)=(some A,some S,some Z,true,some false,some P)):TQ3 i A S Z P:=by simpa only [Prod.mk.injEq]using h
abbrev TQ4(i:TypeId)(U:TypeDesc)(A:Bool)(S:Nat)(Z:List Value):Prop:=zM.und i=some U/\zM.agg i=some A/\zM.sz i=some S/\zM.zero i=some Z/\nK zM i=true/\jZ zM i=true/\dE zM i=some false
theorem kTQ4{i:TypeId}{U:TypeDesc}{A:Bool}{S:Nat}{Z:List Value}(h:(zM.und i,zM.agg i,zM.sz i,zM.zero i,nK zM i,jZ zM i,dE zM i)=(some U,some A,some S,some Z,true,true,some false)):TQ4 i U A S Z:=by simpa only [Prod.mk.injEq]using h
abbrev TQ5(i:TypeId)(A:Bool)(S:Nat)(Z:List Value):Prop:=zM.agg i=some A/\zM.sz i=some S/\zM.zero i=some Z/\isIface zM i=true/\dE zM i=some false
theorem kTQ5{i:TypeId}{A:Bool}{S:Nat}{Z:List Value}(h:(zM.agg i,zM.sz i,zM.zero i,isIface zM i,dE zM i)=(some A,some S,some Z,true,some false)):TQ5 i A S Z:=by simpa only [Prod.mk.injEq]using h
abbrev TQ6(i:TypeId)(U:TypeDesc)(A:Bool)(S:Nat)(Z:List Value):Prop:=zM.und i=some U/\zM.agg i=some A/\zM.sz i=some S/\zM.zero i=some Z/\isSl zM i=true/\dE zM i=some false
theorem kTQ6{i:TypeId}{U:TypeDesc}{A:Bool}{S:Nat}{Z:List Value}(h:(zM.und i,zM.agg i,zM.sz i,zM.zero i,isSl zM i,dE zM i)=(some U,some A,some S,some Z,true,some false)):TQ6 i U A S Z:=by simpa only [Prod.mk.injEq]using h
abbrev TQ7(i:TypeId)(A:Bool)(S:Nat)(Z:List Value):Prop:=zM.agg i=some A/\zM.sz i=some S/\zM.zero i=some Z/\jZ zM i=true/\dE zM i=some false
theorem kTQ7{i:TypeId}{A:Bool}{S:Nat}{Z:List Value}(h:(zM.agg i,zM.sz i,zM.zero i,jZ zM i,dE zM i)=(some A,some S,some Z,true,some false)):TQ7 i A S Z:=by simpa only [Prod.mk.injEq]using h
abbrev TR0(i:TypeId)(f o1 o2 o3:Nat):Prop:=(∀(b o:Nat) (s:Option Nat),aw zM i (.pointer (some ⟨b,o,s⟩)) 0=some (.pointer (some ⟨b,o+f,none⟩))/\aw zM i (.pointer (some ⟨b,o,s⟩)) 1=some (.pointer (some ⟨b,o+o1,none⟩))/\aw zM i (.pointer (some ⟨b,o,s⟩)) 2=some (.pointer (some ⟨b,o+o2,none⟩))/\aw zM i (.pointer (some ⟨b,o,s⟩)) 3=some (.pointer (some ⟨b,o+o3,none⟩)))/\ ∀a c d e:Value,aO zM i (.agg ⟨[a,c,d,e]⟩) 0=some a/\aO zM i (.agg ⟨[a,c,d,e]⟩) 1=some c/\aO zM i (.agg ⟨[a,c,d,e]⟩) 2=some d/\aO zM i (.agg ⟨[a,c,d,e]⟩) 3=some e
abbrev TR1(i:TypeId)(d o1:Nat):Prop:=(∀(b o:Nat) (s:Option Nat),aw zM i (.pointer (some ⟨b,o,s⟩)) 0=some (.pointer (some ⟨b,o+d,none⟩))/\aw zM i (.pointer (some ⟨b,o,s⟩)) 1=some (.pointer (some ⟨b,o+o1,none⟩)))/\ ∀a c:Value,aO zM i (.agg ⟨[a,c]⟩) 0=some a/\aO zM i (.agg ⟨[a,c]⟩) 1=some c
abbrev TR2(i:TypeId)(c:Nat):Prop:=(∀(b o:Nat) (s:Option Nat),aw zM i (.pointer (some ⟨b,o,s⟩)) 0=some (.pointer (some ⟨b,o+c,none⟩)))/\ ∀a:Value,aO zM i (.agg ⟨[a]⟩) 0=some a
abbrev TR3(i:TypeId)(h o1 o2 o3 j k:Nat):Prop:=(∀(b o:Nat) (s:Option Nat),aw zM i (.pointer (some ⟨b,o,s⟩)) 0=some (.pointer (some ⟨b,o+h,none⟩))/\aw zM i (.pointer (some ⟨b,o,s⟩)) 1=some (.pointer (some ⟨b,o+o1,none⟩))/\aw zM i (.pointer (some ⟨b,o,s⟩)) 2=some (.pointer (some ⟨b,o+o2,none⟩))/\aw zM i (.pointer (some ⟨b,o,s⟩)) 3=some (.pointer (some ⟨b,o+o3,none⟩))/\aw zM i (.pointer (some ⟨b,o,s⟩)) 4=some (.pointer (some ⟨b,o+j,none⟩))/\aw zM i (.pointer (some ⟨b,o,s⟩)) 5=some (.pointer (some ⟨b,o+k,none⟩)))/\ ∀a c d e f g:Value,aO zM i (.agg ⟨[a,c,d,e,f,g]⟩) 0=some a/\aO zM i (.agg ⟨[a,c,d,e,f,g]⟩) 1=some c/\aO zM i (.agg ⟨[a,c,d,e,f,g]⟩) 2=some d/\aO zM i (.agg ⟨[a,c,d,e,f,g]⟩) 3=some e/\aO zM i (.agg ⟨[a,c,d,e,f,g]⟩) 4=some f/\aO zM i (.agg ⟨[a,c,d,e,f,g]⟩) 5=some g
abbrev TR4(i:TypeId)(e o1 o2:Nat):Prop:=(∀(b o:Nat) (s:Option Nat),aw zM i (.pointer (some ⟨b,o,s⟩)) 0=some (.pointer (some ⟨b,o+e,none⟩))/\aw zM i (.pointer (some ⟨b,o,s⟩)) 1=some (.pointer (some ⟨b,o+o1,none⟩))/\aw zM i (.pointer (some ⟨b,o,s⟩)) 2=some (.pointer (some ⟨b,o+o2,none⟩)))/\ ∀a c d:Value,aO zM i (.agg ⟨[a,c,d]⟩) 0=some a/\aO zM i (.agg ⟨[a,c,d]⟩) 1=some c/\aO zM i (.agg ⟨[a,c,d]⟩) 2=some d
abbrev TR5(i:TypeId)(h o1 o2:Nat):Prop:=(∀(b o:Nat) (s:Option Nat),aw zM i (.pointer (some ⟨b,o,s⟩)) 0=some (.pointer (some ⟨b,o+h,none⟩))/\aw zM i (.pointer (some ⟨b,o,s⟩)) 1=some (.pointer (some ⟨b,o+o1,none⟩))/\aw zM i (.pointer (some ⟨b,o,s⟩)) 2=some (.pointer (some ⟨b,o+o2,none⟩)))/\ ∀a c d e f g:Value,aO zM i (.agg ⟨[a,c,d,e,f,g]⟩) 0=some (.agg ⟨[a,c,d,e]⟩)/\aO zM i (.agg ⟨[a,c,d,e,f,g]⟩) 1=some f/\aO zM i (.agg ⟨[a,c,d,e,f,g]⟩) 2=some g
abbrev TR6(i:TypeId)(p o1 o2 o3 q r t u v w n:Nat):Prop:=(∀(b o:Nat) (s:Option Nat),aw zM i (.pointer (some ⟨b,o,s⟩)) 0=some (.pointer (some ⟨b,o+p,none⟩))/\aw zM i (.pointer (some ⟨b,o,s⟩)) 1=some (.pointer (some ⟨b,o+o1,none⟩))/\aw zM i (.pointer (some ⟨b,o,s⟩)) 2=some (.pointer (some ⟨b,o+o2,none⟩))/\aw zM i (.pointer (some ⟨b,o,s⟩)) 3=some (.pointer (some ⟨b,o+o3,none⟩))/\aw zM i (.pointer (some ⟨b,o,s⟩)) 4=some (.pointer (some ⟨b,o+q,none⟩))/\aw zM i (.pointer (some ⟨b,o,s⟩)) 5=some (.pointer (some ⟨b,o+r,none⟩))/\aw zM i (.pointer (some ⟨b,o,s⟩)) 6=some (.pointer (some ⟨b,o+t,none⟩))/\aw zM i (.pointer (some ⟨b,o,s⟩)) 7=some (.pointer (some ⟨b,o+u,none⟩))/\aw zM i (.pointer (some ⟨b,o,s⟩)) 8=some (.pointer (some ⟨b,o+v,none⟩))/\aw zM i (.pointer (some ⟨b,o,s⟩)) 9=some (.pointer (some ⟨b,o+w,none⟩))/\aw zM i (.pointer (some ⟨b,o,s⟩)) 10=some (.pointer (some ⟨b,o+n,none⟩)))/\ ∀c d e f g h j k l m a:Value,aO zM i (.agg ⟨[c,d,e,f,g,h,j,k,l,m,a]⟩) 0=some c/\aO zM i (.agg ⟨[c,d,e,f,g,h,j,k,l,m,a]⟩) 1=some d/\aO zM i (.agg ⟨[c,d,e,f,g,h,j,k,l,m,a]⟩) 2=some e/\aO zM i (.agg ⟨[c,d,e,f,g,h,j,k,l,m,a]⟩) 3=some f/\aO zM i (.agg ⟨[c,d,e,f,g,h,j,k,l,m,a]⟩) 4=some g/\aO zM i (.agg ⟨[c,d,e,f,g,h,j,k,l,m,a]⟩) 5=some h/\aO zM i (.agg ⟨[c,d,e,f,g,h,j,k,l,m,a]⟩) 6=some j/\aO zM i (.agg ⟨[c,d,e,f,g,h,j,k,l,m,a]⟩) 7=some k/\aO zM i (.agg ⟨[c,d,e,f,g,h,j,k,l,m,a]⟩) 8=some l/\aO zM i (.agg ⟨[c,d,e,f,g,h,j,k,l,m,a]⟩) 9=some m/\aO zM i (.agg ⟨[c,d,e,f,g,h,j,k,l,m,a]⟩) 10=some a
abbrev TR7(i:TypeId)(k o1 o2 o3 l m n p:Nat):Prop:=(∀(b o:Nat) (s:Option Nat),aw zM i (.pointer (some ⟨b,o,s⟩)) 0=some (.pointer (some ⟨b,o+k,none⟩))/\aw zM i (.pointer (some ⟨b,o,s⟩)) 1=some (.pointer (some ⟨b,o+o1,none⟩))/\aw zM i (.pointer (some ⟨b,o,s⟩)) 2=some (.pointer (some ⟨b,o+o2,none⟩))/\aw zM i (.pointer (some ⟨b,o,s⟩)) 3=some (.pointer (some ⟨b,o+o3,none⟩))/\aw zM i (.pointer (some ⟨b,o,s⟩)) 4=some (.pointer (some ⟨b,o+l,none⟩))/\aw zM i (.pointer (some ⟨b,o,s⟩)) 5=some (.pointer (some ⟨b,o+m,none⟩))/\aw zM i (.pointer (some ⟨b,o,s⟩)) 6=some (.pointer (some ⟨b,o+n,none⟩))/\aw zM i (.pointer (some ⟨b,o,s⟩)) 7=some (.pointer (some ⟨b,o+p,none⟩)))/\ ∀a c d e f g h j:Value,aO zM i (.agg ⟨[a,c,d,e,f,g,h,j]⟩) 0=some a/\aO zM i (.agg ⟨[a,c,d,e,f,g,h,j]⟩) 1=some c/\aO zM i (.agg ⟨[a,c,d,e,f,g,h,j]⟩) 2=some d/\aO zM i (.agg ⟨[a,c,d,e,f,g,h,j]⟩) 3=some e/\aO zM i (.agg ⟨[a,c,d,e,f,g,h,j]⟩) 4=some f/\aO zM i (.agg ⟨[a,c,d,e,f,g,h,j]⟩) 5=some g/\aO zM i (.agg ⟨[a,c,d,e,f,g,h,j]⟩) 6=some h/\aO zM i (.agg ⟨[a,c,d,e,f,g,h,j]⟩) 7=some j
abbrev TR8(i:TypeId)(q o1 o2 o3 r t:Nat):Prop:=(∀(b o:Nat) (s:Option Nat),aw zM i (.pointer (some ⟨b,o,s⟩)) 0=some (.pointer (some ⟨b,o+q,none⟩))/\aw zM i (.pointer (some ⟨b,o,s⟩)) 1=some (.pointer (some ⟨b,o+o1,none⟩))/\aw zM i (.pointer (some ⟨b,o,s⟩)) 2=some (.pointer (some ⟨b,o+o2,none⟩))/\aw zM i (.pointer (some ⟨b,o,s⟩)) 3=some (.pointer (some ⟨b,o+o3,none⟩))/\aw zM i (.pointer (some ⟨b,o,s⟩)) 4=some (.pointer (some ⟨b,o+r,none⟩))/\aw zM i (.pointer (some ⟨b,o,s⟩)) 5=some (.pointer (some ⟨b,o+t,none⟩)))/\ ∀e f g h j k l m n p a c d:Value,aO zM i (.agg ⟨[e,f,g,h,j,k,l,m,n,p,a,c,d]⟩) 0=some (.agg ⟨[e,f,g,h]⟩)/\aO zM i (.agg ⟨[e,f,g,h,j,k,l,m,n,p,a,c,d]⟩) 1=some j/\aO zM i (.agg ⟨[e,f,g,h,j,k,l,m,n,p,a,c,d]⟩) 2=some k/\aO zM i (.agg ⟨[e,f,g,h,j,k,l,m,n,p,a,c,d]⟩) 3=some l/\aO zM i (.agg ⟨[e,f,g,h,j,k,l,m,n,p,a,c,d]⟩) 4=some (.agg ⟨[m,n]⟩)/\aO zM i (.agg ⟨[e,f,g,h,j,k,l,m,n,p,a,c,d]⟩) 5=some (.agg ⟨[p,a,c,d]⟩)
abbrev TR9(i:TypeId)(k o1 o2 o3:Nat):Prop:=(∀(b o:Nat) (s:Option Nat),aw zM i (.pointer (some ⟨b,o,s⟩)) 0=some (.pointer (some ⟨b,o+k,none⟩))/\aw zM i (.pointer (some ⟨b,o,s⟩)) 1=some (.pointer (some ⟨b,o+o1,none⟩))/\aw zM i (.pointer (some ⟨b,o,s⟩)) 2=some (.pointer (some ⟨b,o+o2,none⟩))/\aw zM i (.pointer (some ⟨b,o,s⟩)) 3=some (.pointer (some ⟨b,o+o3,none⟩)))/\ ∀a c d e f g h j:Value,aO zM i (.agg ⟨[a,c,d,e,f,g,h,j]⟩) 0=some (.agg ⟨[a,c]⟩)/\aO zM i (.agg ⟨[a,c,d,e,f,g,h,j]⟩) 1=some d/\aO zM i (.agg ⟨[a,c,d,e,f,g,h,j]⟩) 2=some e/\aO zM i (.agg ⟨[a,c,d,e,f,g,h,j]⟩) 3=some (.agg ⟨[f,g,h,j]⟩)
abbrev TR10(i:TypeId)(e o1:Nat):Prop:=(∀(b o:Nat) (s:Option Nat),aw zM i (.pointer (some ⟨b,o,s⟩)) 0=some (.pointer (some ⟨b,o+e,none⟩))/\aw zM i (.pointer (some ⟨b,o,s⟩)) 1=some (.pointer (some ⟨b,o+o1,none⟩)))/\ ∀a c d:Value,aO zM i (.agg ⟨[a,c,d]⟩) 0=some (.agg ⟨[a,c]⟩)/\aO zM i (.agg ⟨[a,c,d]⟩) 1=some d
abbrev TR11(i:TypeId)(g o1 o2:Nat):Prop:=(∀(b o:Nat) (s:Option Nat),aw zM i (.pointer (some ⟨b,o,s⟩)) 0=some (.pointer (some ⟨b,o+g,none⟩))/\aw zM i (.pointer (some ⟨b,o,s⟩)) 1=some (.pointer (some ⟨b,o+o1,none⟩))/\aw zM i (.pointer (some ⟨b,o,s⟩)) 2=some (.pointer (some ⟨b,o+o2,none⟩)))/\ ∀a c d e f:Value,aO zM i (.agg ⟨[a,c,d,e,f]⟩) 0=some a/\aO zM i (.agg ⟨[a,c,d,e,f]⟩) 1=some (.agg ⟨[c,d,e]⟩)/\aO zM i (.agg ⟨[a,c,d,e,f]⟩) 2=some f
theorem t1:TQ0 1 false 1 [.nilFunc]:=kTQ0 (by kernel_rfl)
theorem t2:TQ1 2 (.int .i64) false 1 [.int .i64 0]:=kTQ1 (by kernel_rfl)
theorem e2E:dX zM 2 8 1 [.int .i64 0]:=⟨⟨_,rfl,by kernel_rfl,by kernel_rfl⟩,t2.2.2.2.1,rfl⟩
theorem t3:TQ1 3 (.int .i64) false 1 [.int .i64 0]:=kTQ1 (by kernel_rfl)
theorem e3E:dX zM 3 8 1 [.int .i64 0]:=⟨⟨_,rfl,by kernel_rfl,by kernel_rfl⟩,t3.2.2.2.1,rfl⟩
theorem t4:TQ2 4 .bool false 1 [.bool false]:=kTQ2 (by kernel_rfl)
theorem e4E:dX zM 4 1 1 [.bool false]:=⟨⟨_,rfl,by kernel_rfl,by kernel_rfl⟩,t4.2.2.2.1,rfl⟩
theorem t5:TQ1 5 (.int .u8) false 1 [.int .u8 0]:=kTQ1 (by kernel_rfl)
theorem e5E:dX zM 5 1 1 [.int .u8 0]:=⟨⟨_,rfl,by kernel_rfl,by kernel_rfl⟩,t5.2.2.2.1,rfl⟩
theorem t6:TQ1 6 (.int .u8) false 1 [.int .u8 0]:=kTQ1 (by kernel_rfl)
theorem t7:TQ3 7 true 4 [.int .i64 0,.int .i64 0,.bool false,.int .u8 0] [(0,1),(1,1),(2,1),(3,1)]:=kTQ3 (by kernel_rfl)
theorem r7:TR0 7 0 1 2 3:=⟨fun _ _ _=>⟨rfl,rfl,rfl,rfl⟩,fun _ _ _ _=>⟨rfl,rfl,rfl,rfl⟩⟩
theorem t8:TQ3 8 true 4 [.int .i64 0,.int .i64 0,.bool false,.int .u8 0] [(0,1),(1,1),(2,1),(3,1)]:=kTQ3 (by kernel_rfl)
theorem r8:TR0 8 0 1 2 3:=⟨fun _ _ _=>⟨rfl,rfl,rfl,rfl⟩,fun _ _ _ _=>⟨rfl,rfl,rfl,rfl⟩⟩
theorem t9:TQ2 9 .string false 1 [.string ⟨#[]⟩]:=kTQ2 (by kernel_rfl)
theorem t10:TQ2 10 .string false 1 [.string ⟨#[]⟩]:=kTQ2 (by kernel_rfl)
theorem t11:TQ2 11 .string false 1 [.string ⟨#[]⟩]:=kTQ2 (by kernel_rfl)
theorem t12:TQ1 12 (.int .u64) false 1 [.int .u64 0]:=kTQ1 (by kernel_rfl)
theorem t13:TQ3 13 true 2 [.string ⟨#[]⟩,.int .u64 0] [(0,1),(1,1)]:=kTQ3 (by kernel_rfl)
theorem r13:TR1 13 0 1:=⟨fun _ _ _=>⟨rfl,rfl⟩,fun _ _=>⟨rfl,rfl⟩⟩
theorem t14:TQ3 14 true 2 [.string ⟨#[]⟩,.int .u64 0] [(0,1),(1,1)]:=kTQ3 (by kernel_rfl)
theorem r14:TR1 14 0 1:=⟨fun _ _ _=>⟨rfl,rfl⟩,fun _ _=>⟨rfl,rfl⟩⟩
theorem t15:TQ4 15 (.pointer 339) false 1 [.pointer none]:=kTQ4 (by kernel_rfl)
theorem t16:TQ4 16 (.pointer 342) false 1 [.pointer none]:=kTQ4 (by kernel_rfl)
theorem t17:TQ4 17 (.pointer 349) false 1 [.pointer none]:=kTQ4 (by kernel_rfl)
theorem t18:TQ3 18 true 1 [.pointer none] [(0,1)]:=kTQ3 (by kernel_rfl)
theorem r18:TR2 18 0:=⟨fun _ _ _=>rfl,fun _=>rfl⟩
theorem t19:TQ3 19 true 1 [.pointer none] [(0,1)]:=kTQ3 (by kernel_rfl)
theorem r19:TR2 19 0:=⟨fun _ _ _=>rfl,fun _=>rfl⟩
theorem t20:TQ5 20 false 1 [.nilIface]:=kTQ5 (by kernel_rfl)
theorem t21:TQ1 21 (.int .i32) false 1 [.int .i32 0]:=kTQ1 (by kernel_rfl)
theorem t22:TQ6 22 (.slice 5) false 1 [.slice none 0 0]:=kTQ6 (by kernel_rfl)
theorem t23:TQ1 23 (.int .i8) false 1 [.int .i8 0]:=kTQ1 (by kernel_rfl)
theorem t24:TQ6 24 (.slice 2) false 1 [.slice none 0 0]:=kTQ6 (by kernel_rfl)
theorem e24E:dX zM 24 24 1 [.slice none 0 0]:=⟨⟨_,rfl,by kernel_rfl,by kernel_rfl⟩,t24.2.2.2.1,rfl⟩
theorem t26:TQ3 26 true 6 [.slice none 0 0,.slice none 0 0,.int .u8 0,.int .u8 0,.int .i8 0,.slice none 0 0] [(0,1),(1,1),(2,1),(3,1),(4,1),(5,1)]:=kTQ3 (by kernel_rfl)
theorem r26:TR3 26 0 1 2 3 4 5:=⟨fun _ _ _=>⟨rfl,rfl,rfl,rfl,rfl,rfl⟩,fun _ _ _ _ _ _=>⟨rfl,rfl,rfl,rfl,rfl,rfl⟩⟩
theorem t28:TQ3 28 true 4 [.int .i64 0,.int .i64 0,.int .i64 0,.int .i64 0] [(0,1),(1,1),(2,1),(3,1)]:=kTQ3 (by kernel_rfl)
theorem r28:TR0 28 0 1 2 3:=⟨fun _ _ _=>⟨rfl,rfl,rfl,rfl⟩,fun _ _ _ _=>⟨rfl,rfl,rfl,rfl⟩⟩
theorem t29:TQ6 29 (.slice 87) false 1 [.slice none 0 0]:=kTQ6 (by kernel_rfl)
theorem t31:TQ3 31 true 4 [.int .i64 0,.slice none 0 0,.slice none 0 0,.slice none 0 0] [(0,1),(1,1),(2,1),(3,1)]:=kTQ3 (by kernel_rfl)
theorem r31:TR0 31 0 1 2 3:=⟨fun _ _ _=>⟨rfl,rfl,rfl,rfl⟩,fun _ _ _ _=>⟨rfl,rfl,rfl,rfl⟩⟩
theorem t32:TQ4 32 (.pointer 151) false 1 [.pointer none]:=kTQ4 (by kernel_rfl)
theorem t33:TQ6 33 (.slice 3) false 1 [.slice none 0 0]:=kTQ6 (by kernel_rfl)
theorem e33E:dX zM 33 24 1 [.slice none 0 0]:=⟨⟨_,rfl,by kernel_rfl,by kernel_rfl⟩,t33.2.2.2.1,rfl⟩
theorem t36:TQ4 36 (.pointer 38) false 1 [.pointer none]:=kTQ4 (by kernel_rfl)
theorem t38:TQ3 38 true 2 [.slice none 0 0,.int .i64 0] [(0,1),(1,1)]:=kTQ3 (by kernel_rfl)
theorem r38:TR1 38 0 1:=⟨fun _ _ _=>⟨rfl,rfl⟩,fun _ _=>⟨rfl,rfl⟩⟩
theorem t41:TQ5 41 false 1 [.nilIface]:=kTQ5 (by kernel_rfl)
theorem t45:TQ1 45 (.int .i64) false 1 [.int .i64 0]:=kTQ1 (by kernel_rfl)
theorem t47:TQ3 47 true 4 [.int .i64 0,.int .i64 0,.slice none 0 0,.slice none 0 0] [(0,1),(1,1),(2,1),(3,1)]:=kTQ3 (by kernel_rfl)
theorem r47:TR0 47 0 1 2 3:=⟨fun _ _ _=>⟨rfl,rfl,rfl,rfl⟩,fun _ _ _ _=>⟨rfl,rfl,rfl,rfl⟩⟩
theorem t48:TQ6 48 (.slice 80) false 1 [.slice none 0 0]:=kTQ6 (by kernel_rfl)
theorem t51:TQ4 51 (.pointer 121) false 1 [.pointer none]:=kTQ4 (by kernel_rfl)
theorem t80:TQ3 80 true 4 [.int .i64 0,.int .i64 0,.int .i64 0,.int .i64 0] [(0,1),(1,1),(2,1),(3,1)]:=kTQ3 (by kernel_rfl)
theorem r80:TR0 80 0 1 2 3:=⟨fun _ _ _=>⟨rfl,rfl,rfl,rfl⟩,fun _ _ _ _=>⟨rfl,rfl,rfl,rfl⟩⟩
theorem e80E:dX zM 80 32 4 [.int .i64 0,.int .i64 0,.int .i64 0,.int .i64 0]:=⟨⟨_,rfl,by kernel_rfl,by kernel_rfl⟩,t80.2.2.1,rfl⟩
theorem t87:TQ3 87 true 3 [.int .i64 0,.int .i64 0,.int .i64 0] [(0,1),(1,1),(2,1)]:=kTQ3 (by kernel_rfl)
theorem r87:TR4 87 0 1 2:=⟨fun _ _ _=>⟨rfl,rfl,rfl⟩,fun _ _ _=>⟨rfl,rfl,rfl⟩⟩
theorem e87E:dX zM 87 24 3 [.int .i64 0,.int .i64 0,.int .i64 0]:=⟨⟨_,rfl,by kernel_rfl,by kernel_rfl⟩,t87.2.2.1,rfl⟩
theorem t114:TQ6 114 (.slice 24) false 1 [.slice none 0 0]:=kTQ6 (by kernel_rfl)
theorem t121:TQ3 121 true 4 [.int .i64 0,.slice none 0 0,.slice none 0 0,.slice none 0 0] [(0,1),(1,1),(2,1),(3,1)]:=kTQ3 (by kernel_rfl)
theorem r121:TR0 121 0 1 2 3:=⟨fun _ _ _=>⟨rfl,rfl,rfl,rfl⟩,fun _ _ _ _=>⟨rfl,rfl,rfl,rfl⟩⟩
theorem t149:TQ6 149 (.slice 33) false 1 [.slice none 0 0]:=kTQ6 (by kernel_rfl)
theorem t151:TQ3 151 true 6 [.int .i64 0,.slice none 0 0,.slice none 0 0,.slice none 0 0,.slice none 0 0,.slice none 0 0] [(0,4),(4,1),(5,1)]:=kTQ3 (by kernel_rfl)
theorem r151:TR5 151 0 4 5:=⟨fun _ _ _=>⟨rfl,rfl,rfl⟩,fun _ _ _ _ _ _=>⟨rfl,rfl,rfl⟩⟩
theorem t229:TQ1 229 (.int .u8) false 1 [.int .u8 0]:=kTQ1 (by kernel_rfl)
theorem t274:TQ4 274 (.pointer 5) false 1 [.pointer none]:=kTQ4 (by kernel_rfl)
theorem t326:TQ1 326 (.int .u32) false 1 [.int .u32 0]:=kTQ1 (by kernel_rfl)
theorem t339:TQ3 339 true 4 [.pointer none,.pointer none,.pointer none,.string ⟨#[]⟩] [(0,1),(1,1),(2,1),(3,1)]:=kTQ3 (by kernel_rfl)
theorem r339:TR0 339 0 1 2 3:=⟨fun _ _ _=>⟨rfl,rfl,rfl,rfl⟩,fun _ _ _ _=>⟨rfl,rfl,rfl,rfl⟩⟩
theorem t340:TQ2 340 (.array 0 16) true 0 []:=kTQ2 (by kernel_rfl)
theorem t342:TQ7 342 true 0 []:=kTQ7 (by kernel_rfl)
theorem t344:TQ1 344 (.int .u8) false 1 [.int .u8 0]:=kTQ1 (by kernel_rfl)
theorem t345:TQ0 345 false 1 [.nilFunc]:=kTQ0 (by kernel_rfl)
theorem t346:TQ1 346 (.int .i32) false 1 [.int .i32 0]:=kTQ1 (by kernel_rfl)
theorem t347:TQ1 347 (.int .i32) false 1 [.int .i32 0]:=kTQ1 (by kernel_rfl)
theorem t349:TQ3 349 true 11 [.int .u64 0,.int .u64 0,.int .u32 0,.int .u8 0,.int .u8 0,.int .u8 0,.int .u8 0,.nilFunc,.pointer none,.int .i32 0,.int .i32 0] [(0,1),(1,1),(2,1),(3,1),(4,1),(5,1),(6,1),(7,1),(8,1),(9,1),(10,1)]:=kTQ3 (by kernel_rfl)
theorem r349:TR6 349 0 1 2 3 4 5 6 7 8 9 10:=⟨fun _ _ _=>⟨rfl,rfl,rfl,rfl,rfl,rfl,rfl,rfl,rfl,rfl,rfl⟩,fun _ _ _ _ _ _ _ _ _ _ _=>⟨rfl,rfl,rfl,rfl,rfl,rfl,rfl,rfl,rfl,rfl,rfl⟩⟩
theorem t63:TQ6 63 (.slice 4) false 1 [.slice none 0 0]:=kTQ6 (by kernel_rfl)
theorem t65:TQ3 65 true 8 [.slice none 0 0,.slice none 0 0,.slice none 0 0,.int .u8 0,.int .u8 0,.int .i8 0,.bool false,.slice none 0 0] [(0,1),(1,1),(2,1),(3,1),(4,1),(5,1),(6,1),(7,1)]:=kTQ3 (by kernel_rfl)
theorem r65:TR7 65 0 1 2 3 4 5 6 7:=⟨fun _ _ _=>⟨rfl,rfl,rfl,rfl,rfl,rfl,rfl,rfl⟩,fun _ _ _ _ _ _ _ _=>⟨rfl,rfl,rfl,rfl,rfl,rfl,rfl,rfl⟩⟩
theorem t66:TQ4 66 (.pointer 197) false 1 [.pointer none]:=kTQ4 (by kernel_rfl)
theorem t67:TQ4 67 (.pointer 268) false 1 [.pointer none]:=kTQ4 (by kernel_rfl)
theorem t69:TQ3 69 true 2 [.pointer none,.pointer none] [(0,1),(1,1)]:=kTQ3 (by kernel_rfl)
theorem r69:TR1 69 0 1:=⟨fun _ _ _=>⟨rfl,rfl⟩,fun _ _=>⟨rfl,rfl⟩⟩
theorem t71:TQ3 71 true 13 [.int .i64 0,.slice none 0 0,.slice none 0 0,.slice none 0 0,.pointer none,.pointer none,.slice none 0 0,.pointer none,.pointer none,.int .i64 0,.int .i64 0,.int .i64 0,.int .i64 0] [(0,4),(4,1),(5,1),(6,1),(7,2),(9,4)]:=kTQ3 (by kernel_rfl)
theorem r71:TR8 71 0 4 5 6 7 9:=⟨fun _ _ _=>⟨rfl,rfl,rfl,rfl,rfl,rfl⟩,fun _ _ _ _ _ _ _ _ _ _ _ _ _=>⟨rfl,rfl,rfl,rfl,rfl,rfl⟩⟩
theorem t197:TQ3 197 true 2 [.slice none 0 0,.int .i64 0] [(0,1),(1,1)]:=kTQ3 (by kernel_rfl)
theorem r197:TR1 197 0 1:=⟨fun _ _ _=>⟨rfl,rfl⟩,fun _ _=>⟨rfl,rfl⟩⟩
theorem t268:TQ3 268 true 4 [.int .i64 0,.int .i64 0,.int .i64 0,.slice none 0 0] [(0,1),(1,1),(2,1),(3,1)]:=kTQ3 (by kernel_rfl)
theorem r268:TR0 268 0 1 2 3:=⟨fun _ _ _=>⟨rfl,rfl,rfl,rfl⟩,fun _ _ _ _=>⟨rfl,rfl,rfl,rfl⟩⟩
theorem e8:zM.fn 8=some Tryz.f8:=by kernel_rfl
theorem e9:zM.fn 9=some Tryz.f9:=by kernel_rfl
theorem e10:zM.fn 10=some Tryz.f10:=by kernel_rfl
theorem e11:zM.fn 11=some Tryz.f11:=by kernel_rfl
theorem t90:TQ3 90 true 4 [.int .i64 0,.int .i64 0,.int .i64 0,.int .i64 0] [(0,1),(1,1),(2,1),(3,1)]:=kTQ3 (by kernel_rfl)
theorem r90:TR0 90 0 1 2 3:=⟨fun _ _ _=>⟨rfl,rfl,rfl,rfl⟩,fun _ _ _ _=>⟨rfl,rfl,rfl,rfl⟩⟩
theorem t92:TQ4 92 (.pointer 90) false 1 [.pointer none]:=kTQ4 (by kernel_rfl)
theorem t94:TQ3 94 true 1 [.pointer none] [(0,1)]:=kTQ3 (by kernel_rfl)
theorem r94:TR2 94 0:=⟨fun _ _ _=>rfl,fun _=>rfl⟩
theorem e12:zM.fn 12=some Tryz.f12:=by kernel_rfl
theorem t103:TQ3 103 true 3 [.int .i64 0,.slice none 0 0,.slice none 0 0] [(0,1),(1,1),(2,1)]:=kTQ3 (by kernel_rfl)
theorem r103:TR4 103 0 1 2:=⟨fun _ _ _=>⟨rfl,rfl,rfl⟩,fun _ _ _=>⟨rfl,rfl,rfl⟩⟩
theorem t109:TQ3 109 true 4 [.int .i64 0,.int .i64 0,.slice none 0 0,.slice none 0 0] [(0,1),(1,1),(2,1),(3,1)]:=kTQ3 (by kernel_rfl)
theorem r109:TR0 109 0 1 2 3:=⟨fun _ _ _=>⟨rfl,rfl,rfl,rfl⟩,fun _ _ _ _=>⟨rfl,rfl,rfl,rfl⟩⟩
theorem t117:TQ0 117 false 1 [.nilFunc]:=kTQ0 (by kernel_rfl)
theorem t119:TQ0 119 false 1 [.nilFunc]:=kTQ0 (by kernel_rfl)
theorem e14:zM.fn 14=some Tryz.f14:=by kernel_rfl
theorem t25:TQ3 25 true 6 [.slice none 0 0,.slice none 0 0,.int .u8 0,.int .u8 0,.int .i8 0,.slice none 0 0] [(0,1),(1,1),(2,1),(3,1),(4,1),(5,1)]:=kTQ3 (by kernel_rfl)
theorem r25:TR3 25 0 1 2 3 4 5:=⟨fun _ _ _=>⟨rfl,rfl,rfl,rfl,rfl,rfl⟩,fun _ _ _ _ _ _=>⟨rfl,rfl,rfl,rfl,rfl,rfl⟩⟩
theorem t27:TQ3 27 true 4 [.int .i64 0,.int .i64 0,.int .i64 0,.int .i64 0] [(0,1),(1,1),(2,1),(3,1)]:=kTQ3 (by kernel_rfl)
theorem r27:TR0 27 0 1 2 3:=⟨fun _ _ _=>⟨rfl,rfl,rfl,rfl⟩,fun _ _ _ _=>⟨rfl,rfl,rfl,rfl⟩⟩
theorem t30:TQ3 30 true 4 [.int .i64 0,.slice none 0 0,.slice none 0 0,.slice none 0 0] [(0,1),(1,1),(2,1),(3,1)]:=kTQ3 (by kernel_rfl)
theorem r30:TR0 30 0 1 2 3:=⟨fun _ _ _=>⟨rfl,rfl,rfl,rfl⟩,fun _ _ _ _=>⟨rfl,rfl,rfl,rfl⟩⟩
theorem e21:zM.fn 21=some Tryz.f21:=by kernel_rfl
theorem t54:TQ0 54 false 1 [.nilFunc]:=kTQ0 (by kernel_rfl)
theorem t130:TQ4 130 (.pointer 132) false 1 [.pointer none]:=kTQ4 (by kernel_rfl)
theorem t132:TQ3 132 true 8 [.pointer none,.pointer none,.pointer none,.pointer none,.int .i64 0,.int .i64 0,.int .i64 0,.int .i64 0] [(0,2),(2,1),(3,1),(4,4)]:=kTQ3 (by kernel_rfl)
theorem r132:TR9 132 0 2 3 4:=⟨fun _ _ _=>⟨rfl,rfl,rfl,rfl⟩,fun _ _ _ _ _ _ _ _=>⟨rfl,rfl,rfl,rfl⟩⟩
theorem t134:TQ0 134 false 1 [.nilFunc]:=kTQ0 (by kernel_rfl)
theorem t137:TQ0 137 false 1 [.nilFunc]:=kTQ0 (by kernel_rfl)
theorem t138:TQ2 138 (.map 3 137) false 1 [.map none]:=kTQ2 (by kernel_rfl)
theorem e22:zM.fn 22=some Tryz.f22:=by kernel_rfl
theorem e26:zM.fn 26=some Tryz.f26:=by kernel_rfl
theorem e27:zM.fn 27=some Tryz.f27:=by kernel_rfl
theorem e28:zM.fn 28=some Tryz.f28:=by kernel_rfl
theorem e29:zM.fn 29=some Tryz.f29:=by kernel_rfl
theorem e30:zM.fn 30=some Tryz.f30:=by kernel_rfl
theorem e31:zM.fn 31=some Tryz.f31:=by kernel_rfl
theorem t152:TQ0 152 false 1 [.nilFunc]:=kTQ0 (by kernel_rfl)
theorem t153:TQ0 153 false 1 [.nilFunc]:=kTQ0 (by kernel_rfl)
theorem e33:zM.fn 33=some Tryz.f33:=by kernel_rfl
theorem e34:zM.fn 34=some Tryz.f34:=by kernel_rfl
theorem t156:TQ0 156 false 1 [.nilFunc]:=kTQ0 (by kernel_rfl)
theorem t161:TQ0 161 false 1 [.nilFunc]:=kTQ0 (by kernel_rfl)
theorem e37:zM.fn 37=some Tryz.f37:=by kernel_rfl
theorem t169:TQ0 169 false 1 [.nilFunc]:=kTQ0 (by kernel_rfl)
theorem t182:TQ2 182 (.map 3 3) false 1 [.map none]:=kTQ2 (by kernel_rfl)
theorem t236:TQ4 236 (.pointer 307) false 1 [.pointer none]:=kTQ4 (by kernel_rfl)
theorem t178:TQ0 178 false 1 [.nilFunc]:=kTQ0 (by kernel_rfl)
theorem t181:TQ0 181 false 1 [.nilFunc]:=kTQ0 (by kernel_rfl)
theorem e42:zM.fn 42=some Tryz.f42:=by kernel_rfl
theorem e43:zM.fn 43=some Tryz.f43:=by kernel_rfl
theorem e44:zM.fn 44=some Tryz.f44:=by kernel_rfl
theorem e45:zM.fn 45=some Tryz.f45:=by kernel_rfl
theorem e46:zM.fn 46=some Tryz.f46:=by kernel_rfl
theorem t187:TQ3 187 true 3 [.slice none 0 0,.slice none 0 0,.slice none 0 0] [(0,1),(1,1),(2,1)]:=kTQ3 (by kernel_rfl)
theorem r187:TR4 187 0 1 2:=⟨fun _ _ _=>⟨rfl,rfl,rfl⟩,fun _ _ _=>⟨rfl,rfl,rfl⟩⟩
theorem e47:zM.fn 47=some Tryz.f47:=by kernel_rfl
theorem e48:zM.fn 48=some Tryz.f48:=by kernel_rfl
theorem t192:TQ0 192 false 1 [.nilFunc]:=kTQ0 (by kernel_rfl)
theorem e52:zM.fn 52=some Tryz.f52:=by kernel_rfl
theorem e53:zM.fn 53=some Tryz.f53:=by kernel_rfl
theorem e54:zM.fn 54=some Tryz.f54:=by kernel_rfl
theorem t201:TQ0 201 false 1 [.nilFunc]:=kTQ0 (by kernel_rfl)
theorem e55:zM.fn 55=some Tryz.f55:=by kernel_rfl
theorem e56:zM.fn 56=some Tryz.f56:=by kernel_rfl
theorem e57:zM.fn 57=some Tryz.f57:=by kernel_rfl
theorem e58:zM.fn 58=some Tryz.f58:=by kernel_rfl
theorem t208:TQ4 208 (.pointer 278) false 1 [.pointer none]:=kTQ4 (by kernel_rfl)
theorem t278:TQ3 278 true 8 [.pointer none,.pointer none,.slice none 0 0,.slice none 0 0,.slice none 0 0,.nilFunc,.nilFunc,.slice none 0 0] [(0,1),(1,1),(2,1),(3,1),(4,1),(5,1),(6,1),(7,1)]:=kTQ3 (by kernel_rfl)
theorem r278:TR7 278 0 1 2 3 4 5 6 7:=⟨fun _ _ _=>⟨rfl,rfl,rfl,rfl,rfl,rfl,rfl,rfl⟩,fun _ _ _ _ _ _ _ _=>⟨rfl,rfl,rfl,rfl,rfl,rfl,rfl,rfl⟩⟩
theorem e59:zM.fn 59=some Tryz.f59:=by kernel_rfl
theorem e60:zM.fn 60=some Tryz.f60:=by kernel_rfl
theorem e61:zM.fn 61=some Tryz.f61:=by kernel_rfl
theorem t180:TQ0 180 false 1 [.nilFunc]:=kTQ0 (by kernel_rfl)
theorem t212:TQ0 212 false 1 [.nilFunc]:=kTQ0 (by kernel_rfl)
theorem e64:zM.fn 64=some Tryz.f64:=by kernel_rfl
theorem t143:TQ3 143 true 1 [.pointer none] [(0,1)]:=kTQ3 (by kernel_rfl)
theorem r143:TR2 143 0:=⟨fun _ _ _=>rfl,fun _=>rfl⟩
theorem e65:zM.fn 65=some Tryz.f65:=by kernel_rfl
theorem t214:TQ0 214 false 1 [.nilFunc]:=kTQ0 (by kernel_rfl)
theorem t216:TQ0 216 false 1 [.nilFunc]:=kTQ0 (by kernel_rfl)
theorem e216E:dX zM 216 8 1 [.nilFunc]:=⟨⟨_,rfl,by kernel_rfl,by kernel_rfl⟩,t216.2.2.1,rfl⟩
theorem t218:TQ6 218 (.slice 216) false 1 [.slice none 0 0]:=kTQ6 (by kernel_rfl)
theorem t220:TQ3 220 true 6 [.int .i64 0,.int .i64 0,.int .i64 0,.int .i64 0,.int .i64 0,.int .i64 0] [(0,1),(1,1),(2,1),(3,1),(4,1),(5,1)]:=kTQ3 (by kernel_rfl)
theorem r220:TR3 220 0 1 2 3 4 5:=⟨fun _ _ _=>⟨rfl,rfl,rfl,rfl,rfl,rfl⟩,fun _ _ _ _ _ _=>⟨rfl,rfl,rfl,rfl,rfl,rfl⟩⟩
theorem e220E:dX zM 220 48 6 [.int .i64 0,.int .i64 0,.int .i64 0,.int .i64 0,.int .i64 0,.int .i64 0]:=⟨⟨_,rfl,by kernel_rfl,by kernel_rfl⟩,t220.2.2.1,rfl⟩
theorem e66:zM.fn 66=some Tryz.f66:=by kernel_rfl
theorem e68:zM.fn 68=some Tryz.f68:=by kernel_rfl
theorem e69:zM.fn 69=some Tryz.f69:=by kernel_rfl
theorem e70:zM.fn 70=some Tryz.f70:=by kernel_rfl
theorem e71:zM.fn 71=some Tryz.f71:=by kernel_rfl
theorem e72:zM.fn 72=some Tryz.f72:=by kernel_rfl
theorem e78:zM.fn 78=some Tryz.f78:=by kernel_rfl
theorem e79:zM.fn 79=some Tryz.f79:=by kernel_rfl
theorem e80:zM.fn 80=some Tryz.f80:=by kernel_rfl
theorem e81:zM.fn 81=some Tryz.f81:=by kernel_rfl
theorem e82:zM.fn 82=some Tryz.f82:=by kernel_rfl
theorem t235:TQ0 235 false 1 [.nilFunc]:=kTQ0 (by kernel_rfl)
theorem t305:TQ3 305 true 2 [.slice none 0 0,.map none] [(0,1),(1,1)]:=kTQ3 (by kernel_rfl)
theorem r305:TR1 305 0 1:=⟨fun _ _ _=>⟨rfl,rfl⟩,fun _ _=>⟨rfl,rfl⟩⟩
theorem t307:TQ3 307 true 3 [.slice none 0 0,.map none,.int .i64 0] [(0,2),(2,1)]:=kTQ3 (by kernel_rfl)
theorem r307:TR10 307 0 2:=⟨fun _ _ _=>⟨rfl,rfl⟩,fun _ _ _=>⟨rfl,rfl⟩⟩
theorem e85:zM.fn 85=some Tryz.f85:=by kernel_rfl
theorem e87:zM.fn 87=some Tryz.f87:=by kernel_rfl
theorem e93:zM.fn 93=some Tryz.f93:=by kernel_rfl
theorem e94:zM.fn 94=some Tryz.f94:=by kernel_rfl
theorem e96:zM.fn 96=some Tryz.f96:=by kernel_rfl
theorem e99:zM.fn 99=some Tryz.f99:=by kernel_rfl
theorem e100:zM.fn 100=some Tryz.f100:=by kernel_rfl
theorem e101:zM.fn 101=some Tryz.f101:=by kernel_rfl
theorem t185:TQ0 185 false 1 [.nilFunc]:=kTQ0 (by kernel_rfl)
theorem e102:zM.fn 102=some Tryz.f102:=by kernel_rfl
theorem t101:TQ0 101 false 1 [.nilFunc]:=kTQ0 (by kernel_rfl)
theorem t102:TQ3 102 true 3 [.int .i64 0,.slice none 0 0,.slice none 0 0] [(0,1),(1,1),(2,1)]:=kTQ3 (by kernel_rfl)
theorem r102:TR4 102 0 1 2:=⟨fun _ _ _=>⟨rfl,rfl,rfl⟩,fun _ _ _=>⟨rfl,rfl,rfl⟩⟩
theorem t255:TQ4 255 (.pointer 259) false 1 [.pointer none]:=kTQ4 (by kernel_rfl)
theorem t259:TQ3 259 true 5 [.pointer none,.slice none 0 0,.slice none 0 0,.slice none 0 0,.map none] [(0,1),(1,3),(4,1)]:=kTQ3 (by kernel_rfl)
theorem r259:TR11 259 0 1 4:=⟨fun _ _ _=>⟨rfl,rfl,rfl⟩,fun _ _ _ _ _=>⟨rfl,rfl,rfl⟩⟩
theorem t261:TQ0 261 false 1 [.nilFunc]:=kTQ0 (by kernel_rfl)
theorem e103:zM.fn 103=some Tryz.f103:=by kernel_rfl
theorem e104:zM.fn 104=some Tryz.f104:=by kernel_rfl
theorem e105:zM.fn 105=some Tryz.f105:=by kernel_rfl
theorem e107:zM.fn 107=some Tryz.f107:=by kernel_rfl
theorem e108:zM.fn 108=some Tryz.f108:=by kernel_rfl
theorem e109:zM.fn 109=some Tryz.f109:=by kernel_rfl
theorem t84:TQ0 84 false 1 [.nilFunc]:=kTQ0 (by kernel_rfl)
theorem e110:zM.fn 110=some Tryz.f110:=by kernel_rfl
theorem e111:zM.fn 111=some Tryz.f111:=by kernel_rfl
theorem e112:zM.fn 112=some Tryz.f112:=by kernel_rfl
theorem e113:zM.fn 113=some Tryz.f113:=by kernel_rfl
theorem e114:zM.fn 114=some Tryz.f114:=by kernel_rfl
theorem e115:zM.fn 115=some Tryz.f115:=by kernel_rfl
theorem e116:zM.fn 116=some Tryz.f116:=by kernel_rfl
theorem t275:TQ0 275 false 1 [.nilFunc]:=kTQ0 (by kernel_rfl)
theorem e117:zM.fn 117=some Tryz.f117:=by kernel_rfl
theorem t204:TQ0 204 false 1 [.nilFunc]:=kTQ0 (by kernel_rfl)
theorem e118:zM.fn 118=some Tryz.f118:=by kernel_rfl
theorem e119:zM.fn 119=some Tryz.f119:=by kernel_rfl
theorem e120:zM.fn 120=some Tryz.f120:=by kernel_rfl
theorem e121:zM.fn 121=some Tryz.f121:=by kernel_rfl
theorem e122:zM.fn 122=some Tryz.f122:=by kernel_rfl
theorem e123:zM.fn 123=some Tryz.f123:=by kernel_rfl
theorem e124:zM.fn 124=some Tryz.f124:=by kernel_rfl
theorem e125:zM.fn 125=some Tryz.f125:=by kernel_rfl
theorem e126:zM.fn 126=some Tryz.f126:=by kernel_rfl
theorem e127:zM.fn 127=some Tryz.f127:=by kernel_rfl
theorem e128:zM.fn 128=some Tryz.f128:=by kernel_rfl
theorem e129:zM.fn 129=some Tryz.f129:=by kernel_rfl
theorem e130:zM.fn 130=some Tryz.f130:=by kernel_rfl
theorem e131:zM.fn 131=some Tryz.f131:=by kernel_rfl
theorem e132:zM.fn 132=some Tryz.f132:=by kernel_rfl
theorem e133:zM.fn 133=some Tryz.f133:=by kernel_rfl
theorem e134:zM.fn 134=some Tryz.f134:=by kernel_rfl
theorem t284:TQ0 284 false 1 [.nilFunc]:=kTQ0 (by kernel_rfl)
theorem e135:zM.fn 135=some Tryz.f135:=by kernel_rfl
theorem e136:zM.fn 136=some Tryz.f136:=by kernel_rfl
theorem e137:zM.fn 137=some Tryz.f137:=by kernel_rfl
theorem e138:zM.fn 138=some Tryz.f138:=by kernel_rfl
theorem e139:zM.fn 139=some Tryz.f139:=by kernel_rfl
theorem t286:TQ6 286 (.slice 220) false 1 [.slice none 0 0]:=kTQ6 (by kernel_rfl)
theorem e140:zM.fn 140=some Tryz.f140:=by kernel_rfl
theorem e141:zM.fn 141=some Tryz.f141:=by kernel_rfl
theorem e142:zM.fn 142=some Tryz.f142:=by kernel_rfl
theorem e143:zM.fn 143=some Tryz.f143:=by kernel_rfl
theorem e144:zM.fn 144=some Tryz.f144:=by kernel_rfl
theorem e145:zM.fn 145=some Tryz.f145:=by kernel_rfl
theorem e146:zM.fn 146=some Tryz.f146:=by kernel_rfl
theorem e147:zM.fn 147=some Tryz.f147:=by kernel_rfl
theorem e152:zM.fn 152=some Tryz.f152:=by kernel_rfl
theorem e153:zM.fn 153=some Tryz.f153:=by kernel_rfl
theorem t303:TQ6 303 (.slice 310) false 1 [.slice none 0 0]:=kTQ6 (by kernel_rfl)
theorem t310:TQ3 310 true 2 [.int .i64 0,.int .i64 0] [(0,1),(1,1)]:=kTQ3 (by kernel_rfl)
theorem r310:TR1 310 0 1:=⟨fun _ _ _=>⟨rfl,rfl⟩,fun _ _=>⟨rfl,rfl⟩⟩
theorem e310E:dX zM 310 16 2 [.int .i64 0,.int .i64 0]:=⟨⟨_,rfl,by kernel_rfl,by kernel_rfl⟩,t310.2.2.1,rfl⟩
theorem e156:zM.fn 156=some Tryz.f156:=by kernel_rfl
theorem e157:zM.fn 157=some Tryz.f157:=by kernel_rfl
theorem e159:zM.fn 159=some Tryz.f159:=by kernel_rfl
theorem e160:zM.fn 160=some Tryz.f160:=by kernel_rfl
theorem e162:zM.fn 162=some Tryz.f162:=by kernel_rfl
theorem e163:zM.fn 163=some Tryz.f163:=by kernel_rfl
theorem t234:TQ0 234 false 1 [.nilFunc]:=kTQ0 (by kernel_rfl)
theorem e167:zM.fn 167=some Tryz.f167:=by kernel_rfl
theorem e168:zM.fn 168=some Tryz.f168:=by kernel_rfl
theorem t253:TQ0 253 false 1 [.nilFunc]:=kTQ0 (by kernel_rfl)
theorem e169:zM.fn 169=some Tryz.f169:=by kernel_rfl
theorem e170:zM.fn 170=some Tryz.f170:=by kernel_rfl
theorem t315:TQ1 315 (.int .u64) false 1 [.int .u64 0]:=kTQ1 (by kernel_rfl)
theorem e171:zM.fn 171=some Tryz.f171:=by kernel_rfl
theorem e172:zM.fn 172=some Tryz.f172:=by kernel_rfl
theorem e173:zM.fn 173=some Tryz.f173:=by kernel_rfl
theorem e174:zM.fn 174=some Tryz.f174:=by kernel_rfl
theorem t264:TQ0 264 false 1 [.nilFunc]:=kTQ0 (by kernel_rfl)
theorem e175:zM.fn 175=some Tryz.f175:=by kernel_rfl
theorem e176:zM.fn 176=some Tryz.f176:=by kernel_rfl
theorem e177:zM.fn 177=some Tryz.f177:=by kernel_rfl
theorem e178:zM.fn 178=some Tryz.f178:=by kernel_rfl
theorem t269:TQ0 269 false 1 [.nilFunc]:=kTQ0 (by kernel_rfl)
theorem e179:zM.fn 179=some Tryz.f179:=by kernel_rfl
theorem e180:zM.fn 180=some Tryz.f180:=by kernel_rfl
theorem e181:zM.fn 181=some Tryz.f181:=by kernel_rfl
theorem e182:zM.fn 182=some Tryz.f182:=by kernel_rfl
theorem e183:zM.fn 183=some Tryz.f183:=by kernel_rfl
theorem e184:zM.fn 184=some Tryz.f184:=by kernel_rfl
theorem e185:zM.fn 185=some Tryz.f185:=by kernel_rfl
theorem e186:zM.fn 186=some Tryz.f186:=by kernel_rfl
theorem e187:zM.fn 187=some Tryz.f187:=by kernel_rfl
theorem e188:zM.fn 188=some Tryz.f188:=by kernel_rfl
theorem e189:zM.fn 189=some Tryz.f189:=by kernel_rfl
theorem e190:zM.fn 190=some Tryz.f190:=by kernel_rfl
theorem e191:zM.fn 191=some Tryz.f191:=by kernel_rfl
theorem e192:zM.fn 192=some Tryz.f192:=by kernel_rfl
theorem e193:zM.fn 193=some Tryz.f193:=by kernel_rfl
theorem e194:zM.fn 194=some Tryz.f194:=by kernel_rfl
theorem e195:zM.fn 195=some Tryz.f195:=by kernel_rfl
theorem e196:zM.fn 196=some Tryz.f196:=by kernel_rfl
theorem e197:zM.fn 197=some Tryz.f197:=by kernel_rfl
theorem e198:zM.fn 198=some Tryz.f198:=by kernel_rfl
theorem e199:zM.fn 199=some Tryz.f199:=by kernel_rfl
theorem e200:zM.fn 200=some Tryz.f200:=by kernel_rfl
theorem e201:zM.fn 201=some Tryz.f201:=by kernel_rfl
theorem t287:TQ0 287 false 1 [.nilFunc]:=kTQ0 (by kernel_rfl)
theorem e202:zM.fn 202=some Tryz.f202:=by kernel_rfl
theorem e203:zM.fn 203=some Tryz.f203:=by kernel_rfl
theorem e207:zM.fn 207=some Tryz.f207:=by kernel_rfl
theorem t325:TQ4 325 (.pointer 305) false 1 [.pointer none]:=kTQ4 (by kernel_rfl)
theorem e208:zM.fn 208=some Tryz.f208:=by kernel_rfl
theorem e209:zM.fn 209=some Tryz.f209:=by kernel_rfl
theorem e210:zM.fn 210=some Tryz.f210:=by kernel_rfl
theorem e211:zM.fn 211=some Tryz.f211:=by kernel_rfl
theorem e212:zM.fn 212=some Tryz.f212:=by kernel_rfl
theorem e213:zM.fn 213=some Tryz.f213:=by kernel_rfl
theorem e214:zM.fn 214=some Tryz.f214:=by kernel_rfl
theorem t318:TQ0 318 false 1 [.nilFunc]:=kTQ0 (by kernel_rfl)
theorem e215:zM.fn 215=some Tryz.f215:=by kernel_rfl
theorem e216:zM.fn 216=some Tryz.f216:=by kernel_rfl
theorem e217:zM.fn 217=some Tryz.f217:=by kernel_rfl
theorem e218:zM.fn 218=some Tryz.f218:=by kernel_rfl
theorem e219:zM.fn 219=some Tryz.f219:=by kernel_rfl
theorem e220:zM.fn 220=some Tryz.f220:=by kernel_rfl
theorem e221:zM.fn 221=some Tryz.f221:=by kernel_rfl
theorem e222:zM.fn 222=some Tryz.f222:=by kernel_rfl
theorem e223:zM.fn 223=some Tryz.f223:=by kernel_rfl
theorem e224:zM.fn 224=some Tryz.f224:=by kernel_rfl
theorem e225:zM.fn 225=some Tryz.f225:=by kernel_rfl
theorem e226:zM.fn 226=some Tryz.f226:=by kernel_rfl
theorem e227:zM.fn 227=some Tryz.f227:=by kernel_rfl
theorem e228:zM.fn 228=some Tryz.f228:=by kernel_rfl
theorem e230:zM.fn 230=some Tryz.f230:=by kernel_rfl
theorem e231:zM.fn 231=some Tryz.f231:=by kernel_rfl
theorem e232:zM.fn 232=some Tryz.f232:=by kernel_rfl
theorem e234:zM.fn 234=some Tryz.f234:=by kernel_rfl
theorem e235:zM.fn 235=some Tryz.f235:=by kernel_rfl
theorem e236:zM.fn 236=some Tryz.f236:=by kernel_rfl
theorem e237:zM.fn 237=some Tryz.f237:=by kernel_rfl
theorem e238:zM.fn 238=some Tryz.f238:=by kernel_rfl
theorem e239:zM.fn 239=some Tryz.f239:=by kernel_rfl
theorem e240:zM.fn 240=some Tryz.f240:=by kernel_rfl
theorem e242:zM.fn 242=some Tryz.f242:=by kernel_rfl
theorem e243:zM.fn 243=some Tryz.f243:=by kernel_rfl
theorem e244:zM.fn 244=some Tryz.f244:=by kernel_rfl
theorem e245:zM.fn 245=some Tryz.f245:=by kernel_rfl
theorem e246:zM.fn 246=some Tryz.f246:=by kernel_rfl
theorem e247:zM.fn 247=some Tryz.f247:=by kernel_rfl
theorem e249:zM.fn 249=some Tryz.f249:=by kernel_rfl
theorem e250:zM.fn 250=some Tryz.f250:=by kernel_rfl
end Tryz
end Go.Ab

end
section
namespace Go.Ab
section
variable(A:List Arc)(f:Arc->Nat)
def outs(j v:Nat):List Nat:=(Xk j).filter fun i=>decide (f (A.getD i default)=v)
def start:Nat->Nat
 |0=>0
 |v+1=>start v+(outs A f A.length v).length
theorem iB(j v:Nat):outs A f (j+1) v=outs A f j v++(if f (A.getD j default)=v then [j]else []):=by
 unfold outs
 rw [X2,List.filter_append]
 congr 1
 by_cases h:f (A.getD j default)=v
 . simp only [XV,List.filter_nil,h,decide_true,if_true]
 . simp only [XV,List.filter_nil,h,decide_false,if_false,Bool.false_eq_true]
theorem outs_pre{j k:Nat}(h:j<=k)(v:Nat): ∃l,outs A f k v=outs A f j v++l:=by
 induction k with
 | zero => have:j=0:=by omega
           subst this;exact⟨[],by simp⟩
 | succ k a=>
   by_cases b:j=k+1
   . subst b;exact⟨[],by simp⟩
   . obtain⟨l,c⟩:=a (by omega)
     exact⟨l++_,by rw [iB,c,List.append_assoc]⟩
theorem uD{j k:Nat}(h:j<=k)(v:Nat):(outs A f j v).length<=(outs A f k v).length:=by
 obtain⟨l,a⟩:=outs_pre A f h v
 rw [a,Xz];omega
theorem start_eq (v:Nat):start A f v=((Xk A.length).filter fun i=>decide (f (A.getD i default)<v)).length:=by
 have e: ∀(l:List Nat) (v:Nat),(l.filter fun i=>decide (f (A.getD i default)<v+1)).length=(l.filter fun i=>decide (f (A.getD i default)<v)).length+(l.filter fun i=>decide (f (A.getD i default)=v)).length:=by
  intro l v
  induction l with
  |nil=>rfl
  | cons x l b=>
    simp only [XV]
    by_cases g:f (A.getD x default)<v
    . have c:f (A.getD x default)<v+1:=by omega
      have d: ¬f (A.getD x default)=v:=by omega
      rw [if_pos (decide_eq_true c),if_pos (decide_eq_true g),if_neg (by rw [decide_eq_true_eq];exact d),Xv,Xv,b];omega
    . by_cases d:f (A.getD x default)=v
      . have c:f (A.getD x default)<v+1:=by omega
        rw [if_pos (decide_eq_true c),if_neg (by rw [decide_eq_true_eq];exact g),if_pos (decide_eq_true d),Xv,Xv,b];omega
      . have c: ¬f (A.getD x default)<v+1:=by omega
        rw [if_neg (by rw [decide_eq_true_eq];exact c),if_neg (by rw [decide_eq_true_eq];exact g),if_neg (by rw [decide_eq_true_eq];exact d),b]
 induction v with
 |zero=>rw [start];symm;rw [List.length_eq_zero_iff,List.filter_eq_nil_iff];intro a _;simp only [Nat.not_lt_zero,decide_false,Bool.false_eq_true,not_false_eq_true]
 |succ v b=>rw [start,b,e];rfl
theorem oR(v:Nat):start A f v+(outs A f A.length v).length<=A.length:=by
 have:=start_eq A f (v+1)
 rw [start]at this
 rw [this]
 exact Xw (List.length_filter_le _ _) (by simp)
theorem tO{u v:Nat}(h:u<v):start A f u+(outs A f A.length u).length<=start A f v:=by
 induction v with
 |zero=>omega
 | succ v a=>
   rw [start]
   by_cases b:u=v
   . subst b;exact XA _
   . have:=a (by omega);omega
theorem y8{u v r s:Nat}(b:r<(outs A f A.length u).length)(c:s<(outs A f A.length v).length)(h:start A f u+r=start A f v+s):u=v/\r=s:=by
 rcases Nat.lt_trichotomy u v with a|a|a
 . have:=tO A f a;omega
 . subst a;exact⟨rfl,by omega⟩
 . have:=tO A f a;omega
end
def bJ(x:Nat):List Value:=[.int .i64 x]
theorem du(x:Nat):(bJ x).length=1:=rfl
def gf(h:Hp)(m:Nat)(v:Value)(N:Nat)(R:Nat->List Nat):Prop:=
 ∃a b,v=.slice (some ⟨a,0,none⟩) N N/\m<=a/\Row h a b 1/\b.length=N/\ ∀i,i<N-> ∃w,b[i]? =some w/\au h 1 bJ w (R i)/\ ∀c,ar w c->m<=c
theorem gf.mo{M:Nat->Prop}{h e:Hp}{v:Value}{m N:Nat}{R:Nat->List Nat}(r:gf h m v N R)(g:Mo M h e)(f: ∀b,M b->b<m):gf e m v N R:=by
 obtain⟨k,j,l,u,n,p,q⟩:=r
 refine⟨k,j,l,by omega,g.has (o:=.row j 1) n (fun h=>by have:=f _ h;omega),p,fun i s=>?_⟩
 obtain⟨w,a,b,c⟩:=q i s
 exact⟨w,a,b.mo g fun x d t=>by have:=f _ t;have:=c x d;omega,fun x d=>by have:=c x d;omega⟩
theorem gf.gr{h a:Hp}{v:Value}{m N:Nat}{R:Nat->List Nat}(g:Gr h a)(r:gf h m v N R):gf a m v N R:=
 r.mo (M:=NoM) g.fr (fun _ h=>h.elim)
theorem gf.low{h:Hp}{v:Value}{m d N:Nat}{R:Nat->List Nat}(r:gf h m v N R)(p:d<=m):gf h d v N R:=by
 obtain⟨e,f,g,q,j,k,l⟩:=r
 exact⟨e,f,g,by omega,j,k,fun i n=>by
  obtain⟨w,a,b,c⟩:=l i n
  exact⟨w,a,b,fun x o=>by have:=c x o;omega⟩⟩
structure aR(h:Hp)(m:Nat)(p:Value)(γ:Gra):Prop where
 ex: ∃b vx vy va vo vi,p=ptrTo b/\Row h b [.int .i64 γ.nodes,vx,vy,va,vo,vi] 1/\c8 h vx vy va γ/\gf h m vo γ.nodes (outs γ.arcs Arc.s γ.arcs.length)/\gf h m vi γ.nodes (outs γ.arcs Arc.t γ.arcs.length)/\m<=b/\ ∀c,ar vx c\/ar vy c\/ar va c->m<=c
theorem c8.mo{M:Nat->Prop}{h i:Hp}{b d e:Value}{j:Gra}(a:c8 h b d e j)(g:Mo M h i)(f: ∀c,ar b c\/ar d c\/ar e c-> ¬M c):c8 i b d e j:=
 ⟨a.X.mo g fun c h=>f c (.inl h),a.Y.mo g fun c h=>f c (.inr (.inl h)),a.A.mo g fun c h=>f c (.inr (.inr h))⟩
theorem aR.mo{M:Nat->Prop}{h d:Hp}{m:Nat}{p:Value}{e:Gra}(n:aR h m p e)(g:Mo M h d)(a: ∀b,M b->b<m):aR d m p e:=by
 obtain⟨b,i,j,k,l,q,r,s,t,u,v,w,f⟩:=n.ex
 exact⟨b,i,j,k,l,q,r,g.has (o:=.row _ 1) s (fun h=>by have:=a _ h;omega),t.mo g (fun c x y=>by have:=a _ y;have:=f c x;omega),u.mo g a,v.mo g a,w,f⟩
theorem aR.gr{h a:Hp}{m:Nat}{p:Value}{b:Gra}(n:aR h m p b)(g:Gr h a):aR a m p b:=n.mo (M:=NoM) g.fr (fun _ h=>h.elim)
theorem iE{α:Type}{N k:Nat}{F F':Nat->α}(b: ∀i,i<N->i≠k->F' i=F i):((Xk N).map F).set k (F' k)=(Xk N).map F':=by
 refine Xo fun i=>?_
 rw [Xp]
 by_cases a:i<N
 . by_cases e:k=i
   . subst e;simp [a]
   . rw [if_neg e];simp [a,b i a (Ne.symm e)]
 . by_cases e:k=i
   . subst e;simp [a]
   . rw [if_neg e];simp [a]
theorem iM{α:Type}{N k:Nat}{F:Nat->α}(a:k<N):((Xk N).map F)[k]? =some (F k):=by simp [a]
end Go.Ab

end
section
namespace Go.Ab
structure Hd where
 id:Nat
 key:Int
deriving Inhabited,DecidableEq
def hle(a b:Hd):Prop:=a.key<b.key\/(a.key=b.key/\a.id<=b.id)
def hlt(a b:Hd):Prop:=a.key<b.key\/(a.key=b.key/\a.id<b.id)
instance (a b:Hd):Decidable (hlt a b):=by unfold hlt;infer_instance
theorem tz{a b:Hd}(h: ¬hlt a b):hle b a:=by unfold hlt at h;unfold hle;omega
theorem qO{a b:Hd}(h:hlt a b):hle a b:=by unfold hlt at h;unfold hle;omega
theorem jP{a b c:Hd}(h:hle a b)(k:hle b c):hle a c:=by unfold hle at*;omega
theorem sS(a:Hd):hle a a:=by unfold hle;omega
def sw(l:List Hd)(i k:Nat):List Hd:=(l.set i (l.getD k default)).set k (l.getD i default)
theorem gX(l:List Hd)(i k:Nat):(sw l i k).length=l.length:=by simp [sw]
theorem jS(l:List Hd)(i j:Nat)(x:Hd):(l.set i x).getD j default=if i=j/\j<l.length then x else l.getD j default:=by
 rw [zO,zO,Xp]
 by_cases h:i=j
 . subst h
   by_cases a:i<l.length
   . simp [a]
   . simp [a]
 . simp [h]
theorem iK(l:List Hd){i k:Nat}(f:i<l.length)(g:k<l.length)(j:Nat):(sw l i k).getD j default=if j=k then l.getD i default else if j=i then l.getD k default else l.getD j default:=by
 unfold sw
 rw [jS,jS,Xs]
 by_cases a:k=j
 . subst a;simp [g]
 . have b: ¬j=k:=fun e=>a e.symm
   simp only [a,b,false_and,if_false]
   by_cases c:i=j
   . subst c;simp [f]
   . have d: ¬j=i:=fun e=>c e.symm
     simp [c,d]
theorem rO(l:List Hd){i k:Nat}(a:i<l.length)(b:k<l.length):(sw l i k).Perm l:=by
 have:((l.set i l[k]).set k l[i]).Perm l:=List.set_set_perm a b
 unfold sw
 rwa [show l.getD k default=l[k] by simp [zO,b],show l.getD i default=l[i] by simp [zO,a]]
def lK(l:List Hd):Prop:= ∀j,0<j->j<l.length->hle (l.getD ((j-1)/4) default) (l.getD j default)
def qr(l:List Hd)(i:Nat):Prop:=(∀j,0<j->j<l.length->j≠i->hle (l.getD ((j-1)/4) default) (l.getD j default))/\ ∀j,0<j->j<l.length->(j-1)/4=i->0<i->hle (l.getD ((i-1)/4) default) (l.getD j default)
theorem up_done{l:List Hd}{i:Nat}(h:qr l i)(a:i=0\/hle (l.getD ((i-1)/4) default) (l.getD i default)):lK l:=by
 intro j b c
 by_cases e:j=i
 . subst e;exact a.resolve_left (by omega)
 . exact h.1 j b c e
theorem up_step{l:List Hd}{i:Nat}(f:i<l.length)(h:qr l i)(h0:0<i)(n:hlt (l.getD i default) (l.getD ((i-1)/4) default)):qr (sw l i ((i-1)/4)) ((i-1)/4):=by
 have c:(i-1)/4<l.length:=by omega
 generalize d:(i-1)/4=p at*
 have t:p<i:=by omega
 refine⟨fun j e b g=>?_,fun j e b g q=>?_⟩
 . rw [gX]at b
   rw [iK l f c,iK l f c,if_neg g]
   by_cases a:j=i
   . subst a;rw [d,if_pos rfl,if_pos rfl];exact qO n
   . rw [if_neg a]
     by_cases k:(j-1)/4=p
     . rw [if_pos k]
       have:=h.1 j e b a
       rw [k]at this
       exact jP (qO n) this
     . rw [if_neg k]
       by_cases m:(j-1)/4=i
       . rw [if_pos m];have:=h.2 j e b m h0;rwa [d]at this
       . rw [if_neg m];exact h.1 j e b a
 . rw [gX]at b
   have r: ¬(p-1)/4=p:=by omega
   have s: ¬(p-1)/4=i:=by omega
   rw [iK l f c,iK l f c,if_neg r,if_neg s,if_neg (show¬j=p by omega)]
   have o:=h.1 p q c (by omega)
   by_cases a:j=i
   . rw [if_pos a];exact o
   . rw [if_neg a]
     have:=h.1 j e b a
     rw [g]at this
     exact jP o this
def rN(l:List Hd)(i:Nat):Prop:=(∀j,0<j->j<l.length->(j-1)/4≠i->hle (l.getD ((j-1)/4) default) (l.getD j default))/\ ∀j,0<j->j<l.length->(j-1)/4=i->0<i->hle (l.getD ((i-1)/4) default) (l.getD j default)
theorem dn_done{l:List Hd}{i:Nat}(h:rN l i)(c: ∀j,0<j->j<l.length->(j-1)/4=i->hle (l.getD i default) (l.getD j default)):lK l:=by
 intro j a b
 by_cases e:(j-1)/4=i
 . rw [e];exact c j a b e
 . exact h.1 j a b e
theorem dn_step{l:List Hd}{i b:Nat}(h:rN l i)(o:0<b)(c:b<l.length)(k:(b-1)/4=i)(p:hlt (l.getD b default) (l.getD i default))(q: ∀j,0<j->j<l.length->(j-1)/4=i->hle (l.getD b default) (l.getD j default)):rN (sw l i b) b:=by
 have g:i<l.length:=by omega
 refine⟨fun j d a m=>?_,fun j d a m _=>?_⟩
 . rw [gX]at a
   rw [iK l g c,iK l g c,if_neg m]
   by_cases e:(j-1)/4=i
   . rw [if_pos e]
     by_cases f:j=b
     . rw [if_pos f];exact qO p
     . rw [if_neg f,if_neg (show¬j=i by omega)];exact q j d a e
   . rw [if_neg e]
     by_cases f:j=b
     . subst f;exact absurd k e
     . rw [if_neg f]
       by_cases n:j=i
       . subst n;rw [if_pos rfl];exact h.2 b o c k d
       . rw [if_neg n];exact h.1 j d a e
 . rw [gX]at a
   rw [iK l g c,iK l g c,k,if_neg (show¬i=b by omega),if_pos rfl,if_neg (show¬j=b by omega),if_neg (show¬j=i by omega)]
   have:=h.1 j d a (by omega)
   rwa [m]at this
theorem heap_min{l:List Hd}(h:lK l): ∀j,j<l.length->hle (l.getD 0 default) (l.getD j default):=by
 intro j
 induction j using Nat.strongRecOn with
 | _ j a=>
   intro b
   by_cases e:j=0
   . subst e;exact sS _
   . exact jP (a ((j-1)/4) (by omega) (by omega)) (h j (by omega) b)
theorem kz(l m:List Hd){j:Nat}(a:j<l.length):(l++m).getD j default=l.getD j default:=by
 rw [zO,zO,Xe a]
theorem vJ{l:List Hd}(h:lK l)(x:Hd):qr (l++[x]) l.length:=by
 refine⟨fun j b a c=>?_,fun j b a c _=>?_⟩
 . simp at a
   rw [kz l _ (by omega),kz l _ (by omega)]
   exact h j b (by omega)
 . simp at a;omega
theorem AO{l:List Hd}(h:lK l){i:Nat}{x:Hd}(f:hle x (l.getD i default)):qr (l.set i x) i:=by
 refine⟨fun j b a c=>?_,fun j b a c g=>?_⟩
 . rw [Xs]at a
   rw [jS,jS,if_neg (show¬(i=j/\_)from fun e=>c e.1.symm)]
   split
   . rename_i e;have:=h j b a;rw [<-e.1]at this;exact jP f this
   . exact h j b a
 . rw [Xs]at a
   rw [jS,jS,if_neg (show¬(i=j/\_) by omega),if_neg (show¬(i=(i-1)/4/\_) by omega)]
   have k:=h i g (by omega)
   have d:=h j b a
   rw [c]at d
   exact jP k d
theorem getD_take(l:List Hd){n j:Nat}(a:j<n):(l.take n).getD j default=l.getD j default:=by
 rw [zO,zO,XW a]
theorem heap_pop{l:List Hd}(h:lK l)(d:0<l.length):rN ((sw l 0 (l.length-1)).take (l.length-1)) 0:=by
 refine⟨fun j a b c=>?_,fun j a b c e=>?_⟩
 . rw [Xm,gX]at b
   rw [getD_take _ (by omega),getD_take _ (by omega),iK l (by omega) (by omega),iK l (by omega) (by omega),if_neg (by omega),if_neg (by omega),if_neg (by omega),if_neg (by omega)]
   exact h j a (by omega)
 . omega
def ic(l:List Hd)(K:Nat->Option Int):Prop:=(l.map Hd.id).Nodup/\ ∀v k,K v=some k↔⟨v,k⟩∈l
def cD(K:Nat->Option Int)(v:Nat)(x:Option Int):Nat->Option Int:=fun u=>if u=v then x else K u
theorem ic.perm{l m:List Hd}{K:Nat->Option Int}(h:ic l K)(p:m.Perm l):ic m K:=
 ⟨(p.map Hd.id).nodup_iff.2 h.1,fun v k=>by rw [h.2];exact p.mem_iff.symm⟩
theorem ic.free{l:List Hd}{K:Nat->Option Int}(h:ic l K){v:Nat}(a:K v=none):v∉l.map Hd.id:=by
 intro b
 obtain⟨x,c,rfl⟩:=List.mem_map.1 b
 have:=(h.2 x.id x.key).2 c
 rw [a]at this;cases this
theorem ic.push{l:List Hd}{K:Nat->Option Int}(h:ic l K){v:Nat}(d:K v=none)(k:Int):ic (l++[⟨v,k⟩]) (cD K v (some k)):=by
 refine⟨?_,fun u x=>?_⟩
 . rw [Xi,Xd]
   exact⟨h.1,by simp,fun a g b f e=>h.free d (by simp at f;subst f;subst e;exact g)⟩
 . unfold cD
   by_cases e:u=v
   . subst e
     rw [if_pos rfl,X3]
     constructor
     . intro e;cases e;exact .inr (by simp)
     . rintro(c|c)
       . have:=(h.2 u x).2 c;rw [d]at this;cases this
       . simp at c;rw [c]
   . rw [if_neg e,X3,h.2]
     constructor
     . exact .inl
     . rintro(c|c)
       . exact c
       . simp at c;exact absurd c.1 e
theorem nodup_idx{l:List Hd}(h:(l.map Hd.id).Nodup){i j:Nat}(a:i<l.length)(b:j<l.length)(e:(l.getD i default).id=(l.getD j default).id):i=j:=by
 refine oK h (x:=(l.getD i default).id) (by simp [a]) ?_
 rw [e];simp [b]
theorem ic.lower{l:List Hd}{K:Nat->Option Int}(h:ic l K){i:Nat}(c:i<l.length)(k:Int):ic (l.set i ⟨(l.getD i default).id,k⟩) (cD K (l.getD i default).id (some k)):=by
 have g:(l.set i ⟨(l.getD i default).id,k⟩).map Hd.id=l.map Hd.id:=by
  rw [List.map_set]
  refine Xo fun j=>?_
  rw [Xp]
  split
  . rename_i e;subst e;simp [c]
  . rfl
 refine⟨by rw [g];exact h.1,fun u x=>?_⟩
 unfold cD
 by_cases e:u=(l.getD i default).id
 . rw [if_pos e]
   constructor
   . intro m;cases m;subst e;exact List.mem_iff_getElem?.2 ⟨i,by simp [c]⟩
   . intro b
     obtain⟨j,a⟩:=List.mem_iff_getElem?.1 b
     rw [Xp]at a
     split at a
     . cases a;rfl
     . rename_i d
       have f:=(List.getElem?_eq_some_iff.1 a).1
       exact absurd (nodup_idx h.1 c f (by rw [<-e];simp [zO,a])) d
 . rw [if_neg e,h.2]
   constructor
   . intro b
     obtain⟨j,a⟩:=List.mem_iff_getElem?.1 b
     refine List.mem_iff_getElem?.2 ⟨j,?_⟩
     rw [Xp,if_neg ?_]
     . exact a
     . rintro rfl
       apply e
       simp [zO,a]
   . intro b
     obtain⟨j,a⟩:=List.mem_iff_getElem?.1 b
     rw [Xp]at a
     split at a
     . cases a;exact absurd rfl e
     . exact Xb a
theorem ic.pop{l:List Hd}{K:Nat->Option Int}(h:ic l K)(g:0<l.length):ic ((sw l 0 (l.length-1)).take (l.length-1)) (cD K (l.getD 0 default).id none):=by
 have p:=rO l (i:=0) (k:=l.length-1) g (by omega)
 have n:=h.perm p
 have e:sw l 0 (l.length-1)=(sw l 0 (l.length-1)).take (l.length-1)++[l.getD 0 default]:=by
  refine Xo fun j=>?_
  have o:=iK l (i:=0) (k:=l.length-1) g (by omega) (l.length-1)
  rw [if_pos rfl]at o
  have a:=gX l 0 (l.length-1)
  by_cases q:j<l.length-1
  . rw [Xe (by simp [a];omega),XW q]
  . by_cases c:j=l.length-1
    . subst c
      rw [Xc (by simp [a])]
      rw [<-o]
      simp [a,zO,show l.length-1<l.length by omega]
    . rw [X6 (by omega),X6 (by simp [a];omega)]
 generalize(sw l 0 (l.length-1)).take (l.length-1)=m at*
 generalize l.getD 0 default=x at*
 rw [e]at n
 obtain⟨d,r⟩:=n
 rw [Xi,Xd]at d
 refine⟨d.1,fun v k=>?_⟩
 unfold cD
 by_cases b:v=x.id
 . rw [if_pos b]
   constructor
   . intro h;cases h
   . intro s
     exact absurd b (d.2.2 v (Xf (f:=Hd.id) s) x.id (by simp))
 . rw [if_neg b,r,X3]
   constructor
   . rintro(h|h)
     . exact h
     . simp at h;exact absurd (by rw [<-h]) b
   . exact .inl
theorem ic.at{l:List Hd}{K:Nat->Option Int}(h:ic l K){i:Nat}(a:i<l.length):K (l.getD i default).id=some (l.getD i default).key:=
 (h.2 _ _).2 (List.mem_iff_getElem?.2 ⟨i,by simp [a]⟩)
theorem ic.idx{l:List Hd}{K:Nat->Option Int}(h:ic l K){v:Nat}{k:Int}(b:K v=some k): ∃i,i<l.length/\l.getD i default=⟨v,k⟩:=by
 obtain⟨i,a⟩:=List.mem_iff_getElem?.1 ((h.2 v k).1 b)
 exact⟨i,(List.getElem?_eq_some_iff.1 a).1,by simp [zO,a]⟩
theorem ic.nil{K:Nat->Option Int}(h:ic [] K)(v:Nat):K v=none:=by
 cases a:K v with
 |none=>rfl
 |some k=>have:=(h.2 v k).1 a;cases this
theorem cont_nil:ic [] (fun _=>none):=⟨.nil,fun v k=>by constructor<;>intro h<;>cases h⟩
end Go.Ab

end
section
namespace Go.Ab
def FAR:Nat:=72057594037927936
def cG:Nat:=2147483647
theorem fj:FAR=72057594037927936:=rfl
theorem lU:cG=2147483647:=rfl
inductive Wk(B:List Arc)(s:Nat):Nat->Nat->Prop where
 |nil:Wk B s s 0
 |snoc {w:Nat} {a:Arc}:a∈B->Wk B s a.s w->Wk B s a.t (w+a.w)
theorem Wk.snoc'{B:List Arc}{s u v w x:Nat}(h:Wk B s u w){a:Arc}(b:a∈B)(c:a.s=u)(d:a.t=v)(e:x=w+a.w):Wk B s v x:=by
 subst c d e;exact .snoc b h
def IsD(B:List Arc)(s v x:Nat):Prop:=(x<FAR/\Wk B s v x/\ ∀w,Wk B s v w->x<=w)\/(x=FAR/\ ∀w,¬Wk B s v w)
theorem IsD.uniq{B:List Arc}{s v x y:Nat}(h:IsD B s v x)(k:IsD B s v y):x=y:=by
 rcases h with⟨a,b,c⟩|⟨a,b⟩<;>rcases k with⟨d,e,f⟩|⟨d,e⟩
 . have:=c _ e;have:=f _ b;omega
 . exact absurd b (e _)
 . exact absurd e (b _)
 . omega
theorem IsD.le{B:List Arc}{s v x:Nat}(h:IsD B s v x):x<=FAR:=by
 rcases h with⟨a,_,_⟩|⟨a,_⟩<;>omega
theorem IsD.self{B:List Arc}{s x:Nat}(h:IsD B s s x):x=0:=by
 rcases h with⟨a,b,c⟩|⟨a,b⟩
 . have:=c 0 .nil;omega
 . exact absurd .nil (b 0)
theorem IsD.arc{B:List Arc}{s x y:Nat}{a:Arc}(c:a∈B)(f:IsD B s a.s x)(d:IsD B s a.t y):y<=x+a.w:=by
 rcases f with⟨g,b,j⟩|⟨g,b⟩
 . rcases d with⟨h,e,i⟩|⟨h,e⟩
   . exact i _ (.snoc c b)
   . exact absurd (.snoc c b) (e _)
 . have:=d.le;omega
theorem oG: ∀(N:Nat) (l:List Nat),l.Nodup->(∀x∈l,x<N)->l.length<=N
 | 0,l,_,h=>by
   cases l with
   |nil=>simp
   |cons x l=>have:=h x (by simp);omega
 | N+1,l,b,h=>by
   have f:=oG N (l.erase N) (b.erase N) (fun x c=>by
    have d:=h x (List.mem_of_mem_erase c)
    have g:x≠N:=fun e=>by subst e;exact(List.Nodup.not_mem_erase b) c
    omega)
   have d:=List.length_erase (a:=N) (l:=l)
   split at d<;>omega

section
variable{B:List Arc}{s N:Nat}{O:List Nat}{D:Nat->Nat}{K:Nat->Option Int}{ex:Arc->Prop}
structure Dj(B:List Arc)(s N:Nat)(O:List Nat)(D:Nat->Nat)(K:Nat->Option Int)(ex:Arc->Prop):Prop where
 i1: ∀v,v∈O->K v=none
 i2: ∀v∈O,Wk B s v (D v)/\(∀w,Wk B s v w->D v<=w)/\D v<=O.length*cG
 i2f: ∀v,v∉O->D v=FAR
 i3: ∀v k,K v=some k->v<N/\ ∃n:Nat,k=n/\Wk B s v n/\n<=O.length*cG
 i4: ∀a∈B,a.s∈O-> ¬ex a->a.t∈O\/ ∃k:Int,K a.t=some k/\k<=D a.s+a.w
 i5:s∈O\/K s=some 0
 nd:O.Nodup
 lt: ∀v∈O,v<N
theorem Dj.len(d:Dj B s N O D K ex):O.length<=N:=oG N O d.nd d.lt
theorem dj_init(b:s<N):Dj B s N [] (fun _=>FAR) (cD (fun _=>none) s (some 0)) (fun _=>False):=by
 refine⟨fun v h=>(by cases h),fun v h=>(by cases h),fun v _=>rfl,fun v k h=>?_,fun a _ h=>(by cases h),.inr (by simp [cD]),.nil,fun v h=>(by cases h)⟩
 unfold cD at h
 split at h
 . rename_i e;cases h;subst e;exact⟨b,0,rfl,.nil,by simp⟩
 . cases h
theorem Dj.front(d:Dj B s N O D K (fun _=>False)){x w:Nat}(h:Wk B s x w):x∈O\/ ∃y k,K y=some k/\k<=(w:Int):=by
 induction h with
 |nil=>exact d.i5.imp (fun h=>h) (fun h=>⟨_,_,h,by omega⟩)
 | @snoc w a e f b=>
   rcases b with b|⟨y,k,c,g⟩
   . rcases d.i4 a e b (fun h=>h)with h|⟨k,c,g⟩
     . exact .inl h
     . have:=(d.i2 _ b).2.1 _ f
       exact .inr ⟨_,k,c,by omega⟩
   . exact .inr ⟨y,k,c,by omega⟩
theorem Dj.pop(d:Dj B s N O D K (fun _=>False)){v:Nat}{n:Nat}(q:K v=some (n:Int))(A: ∀u k,K u=some k->(n:Int)<=k):
 Dj B s N (O++[v]) (fun u=>if u=v then n else D u) (cD K v none) (fun a=>a.s=v)/\v∉O/\v<N/\n<=O.length*cG:=by
 have g:v∉O:=fun h=>by have:=d.i1 v h;rw [q]at this;cases this
 obtain⟨i,C,e,E,l⟩:=d.i3 v _ q
 have e:n=C:=by omega
 subst e
 have r:(O++[v]).length*cG=O.length*cG+cG:=by rw [Xz,List.length_singleton,Nat.succ_mul]
 refine⟨⟨fun u f=>?_,fun u f=>?_,fun u f=>?_,fun u k f=>?_,fun a o t x=>?_,?_,?_,fun u f=>?_⟩,g,i,l⟩
 . unfold cD
   by_cases e:u=v
   . rw [if_pos e]
   . rw [if_neg e];simp [e]at f;exact d.i1 u f
 . rw [r]
   by_cases e:u=v
   . subst e
     simp only [if_true]
     refine⟨E,fun w h=>?_,by omega⟩
     rcases d.front h with j|⟨y,k,j,z⟩
     . exact absurd j g
     . have:=A y k j;omega
   . simp only [e,if_false]
     simp [e]at f
     obtain⟨a,b,c⟩:=d.i2 u f
     exact⟨a,b,by omega⟩
 . simp at f
   simp only [f.2,if_false]
   exact d.i2f u f.1
 . unfold cD at f
   split at f
   . cases f
   . obtain⟨a,m,b,c,e⟩:=d.i3 u k f
     exact⟨a,m,b,c,by rw [r];omega⟩
 . simp [x]at t
   have p: ¬a.s=v:=x
   simp only [p,if_false]
   rcases d.i4 a o t (fun h=>h)with h|⟨k,j,z⟩
   . exact .inl (by simp [h])
   . by_cases e:a.t=v
     . exact .inl (by simp [e])
     . exact .inr ⟨k,by unfold cD;rw [if_neg e];exact j,z⟩
 . rcases d.i5 with h|h
   . exact .inl (by simp [h])
   . by_cases e:s=v
     . exact .inl (by simp [e])
     . exact .inr (by unfold cD;rw [if_neg e];exact h)
 . rw [Xd]
   exact⟨d.nd,by simp,fun a o b l e=>g (by simp at l;subst l;subst e;exact o)⟩
 . rcases List.mem_append.1 f with h|h
   . exact d.lt u h
   . simp at h;subst h;exact i
def iN(O:List Nat)(K:Nat->Option Int)(u:Nat)(x:Int):Nat->Option Int:=if u∈O then K else match K u with
 |some k=>if k<=x then K else cD K u (some x)
 |none=>cD K u (some x)
theorem Dj.relaxed (d:Dj B s N O D K ex) {ex':Arc->Prop} {a:Arc} (t:a∈B) (u:a.s∈O) (w:a.t<N) (m:D a.s+a.w<=O.length*cG) (x: ∀b∈B,¬ex' b-> ¬ex b\/b=a):
 Dj B s N O D (iN O K a.t ((D a.s+a.w:Nat):Int)) ex':=by
 have f: ∀i,(∀v,v∈O->i v=K v)->(∀v k,i v=some k->K v=some k\/(v=a.t/\k=((D a.s+a.w:Nat):Int)))->(∀v k,K v=some k-> ∃j,i v=some j/\j<=k)->(a.t∈O\/ ∃k:Int,i a.t=some k/\k<=D a.s+a.w)->Dj B s N O D i ex':=by
  intro i y q r z
  refine⟨fun v c=>by rw [y v c];exact d.i1 v c,d.i2,d.i2f,fun v k g=>?_,fun b m n o=>?_,?_,d.nd,d.lt⟩
  . rcases q v k g with h|⟨rfl,rfl⟩
    . exact d.i3 v k h
    . exact⟨w,_,rfl,.snoc t (d.i2 _ u).1,m⟩
  . rcases x b m o with h|rfl
    . rcases d.i4 b m n h with h|⟨k,A,E⟩
      . exact .inl h
      . obtain⟨j,l,C⟩:=r _ _ A
        exact .inr ⟨j,l,by omega⟩
    . exact z
  . rcases d.i5 with h|h
    . exact .inl h
    . obtain⟨j,l,C⟩:=r _ _ h
      rcases q _ _ l with p|⟨p,F⟩
      . rw [h]at p;exact .inr (by rw [l,p])
      . exact .inr (by rw [l];congr 1;omega)
 unfold iN
 by_cases h:a.t∈O
 . rw [if_pos h];exact f K (fun _ _=>rfl) (fun _ _ h=>.inl h) (fun v k h=>⟨k,h,by omega⟩) (.inl h)
 . rw [if_neg h]
   have upd:(∀k,K a.t=some k->((D a.s+a.w:Nat):Int)<=k)->Dj B s N O D (cD K a.t (some ((D a.s+a.w:Nat):Int))) ex':=fun g=>by
    refine f _ (fun v c=>?_) (fun v k c=>?_) (fun v k c=>?_) (.inr ⟨((D a.s+a.w:Nat):Int),by unfold cD;rw [if_pos rfl],by omega⟩)
    . unfold cD;rw [if_neg (fun e=>h (by subst e;exact c))]
    . unfold cD at c
      split at c
      . rename_i e;cases c;exact .inr ⟨e,rfl⟩
      . exact .inl c
    . unfold cD
      by_cases e:v=a.t
      . rw [if_pos e];subst e;exact⟨_,rfl,g k c⟩
      . rw [if_neg e];exact⟨k,c,by omega⟩
   cases g:K a.t with
   |none=>simp only [];exact upd (fun k e=>by rw [g]at e;cases e)
   | some k=>
     simp only []
     split
     . rename_i hle
       exact f K (fun _ _=>rfl) (fun _ _ h=>.inl h) (fun v k h=>⟨k,h,by omega⟩) (.inr ⟨k,g,by omega⟩)
     . rename_i hle
       exact upd (fun j e=>by rw [g]at e;cases e;omega)
theorem Dj.done(d:Dj B s N O D K (fun _=>False))(f: ∀v,K v=none)(g:N<=12)(v:Nat):IsD B s v (D v):=by
 have j:=Nat.mul_le_mul_right cG (Xw d.len g)
 have:=fj
 have:=lU
 by_cases h:v∈O
 . obtain⟨a,b,c⟩:=d.i2 v h
   exact .inl ⟨by omega,a,b⟩
 . refine .inr ⟨d.i2f v h,fun w i=>?_⟩
   rcases d.front i with e|⟨y,k,e,_⟩
   . exact h e
   . rw [f]at e;cases e
end
theorem fU{A:List Arc}{f:Arc->Nat}{j v i:Nat}:i∈outs A f j v↔i<j/\f (A.getD i default)=v:=by
 unfold outs
 rw [List.mem_filter,X7,decide_eq_true_eq]
def dk(a:Arc):Arc:=⟨a.t,a.s,a.w⟩

structure Ls(B:List Arc)(s N:Nat)(l:Nat->Nat):Prop where
 le: ∀v,l v<=FAR
 wk: ∀v,l v=FAR\/Wk B s v (l v)
 s0:l s=0
def bT(l:Nat->Nat)(v x:Nat):Nat->Nat:=fun u=>if u=v then x else l u
theorem Ls.step{B:List Arc}{s N:Nat}{l:Nat->Nat}(h:Ls B s N l){a:Arc}(b:a∈B)(f:l a.s<FAR)(c:l a.s+a.w<l a.t):Ls B s N (bT l a.t (l a.s+a.w)):=by
 have d:=(h.wk a.s).resolve_left (by omega)
 refine⟨fun v=>?_,fun v=>?_,?_⟩
 . unfold bT;split
   . have:=h.le a.t;omega
   . exact h.le v
 . unfold bT;split
   . rename_i e;subst e;exact .inr (.snoc b d)
   . exact h.wk v
 . unfold bT;split
   . rename_i e;rw [<-e,h.s0]at c;omega
   . exact h.s0
theorem Ls.le_wk{B:List Arc}{s N:Nat}{l:Nat->Nat}(h:Ls B s N l)(b: ∀a∈B,l a.s<FAR->l a.t<=l a.s+a.w){v w:Nat}(k:Wk B s v w):l v<=w:=by
 induction k with
 |nil=>rw [h.s0];omega
 | @snoc w a c d f=>
   by_cases e:l a.s<FAR
   . have:=b a c e;omega
   . have:=h.le a.t;omega
theorem Ls.isD{B:List Arc}{s N v x:Nat}{l:Nat->Nat}(h:Ls B s N l)(e: ∀a∈B,l a.s<FAR->l a.t<=l a.s+a.w)(k:IsD B s v x):l v=x:=by
 rcases k with⟨a,b,c⟩|⟨a,b⟩
 . have f:=h.le_wk e b
   rcases h.wk v with d|d
   . omega
   . have:=c _ d;omega
 . rcases h.wk v with d|d
   . omega
   . exact absurd d (b _)
def sumTo(l:Nat->Nat):Nat->Nat
 |0=>0
 |n+1=>sumTo l n+l n
theorem sum_upd{l:Nat->Nat}{v x:Nat}: ∀{N:Nat},v<N->sumTo (bT l v x) N+l v=sumTo l N+x
 |0,h=>by omega
 | N +1,h=>by
   have none: ∀{M:Nat},M<=v->sumTo (bT l v x) M=sumTo l M:=by
    intro M
    induction M with
    |zero=>intro _;rfl
    |succ M a=>intro b;simp only [sumTo];rw [a (by omega)];unfold bT;rw [if_neg (by omega)]
   simp only [sumTo]
   by_cases e:v=N
   . subst e;rw [none (XA _)];unfold bT;rw [if_pos rfl];omega
   . have:=sum_upd (l:=l) (v:=v) (x:=x) (N:=N) (by omega)
     have:bT l v x N=l N:=by unfold bT;rw [if_neg (by omega)]
     omega
end Go.Ab

end
section
namespace Go.Ab
def EM(l:List (Int×Value×Nat)):List (Value×Value×Nat):=l.map fun p=>(.int .i64 p.1,p.2.1,p.2.2)
def dQ(f:Int->Option Value)(x:Int)(v:Option Value):Int->Option Value:=fun y=>if y=x then v else f y
def dC(a:List (Value×Value×Nat))(c:Nat)(f:Int->Option Value):Prop:=
 ∃l,a=EM l/\(l.map Xg).Nodup/\(l.map fun p=>p.2.2).Nodup/\(∀p∈l,p.2.2<c)/\ ∀x v,f x=some v↔ ∃n,(x,v,n)∈l
theorem pV{x y:Int}:cC (.int .i64 x) (.int .i64 y)=some (decide (x=y)):=by
 show some (iH x y)=_
 congr 1
 rw [mD]
theorem xz{l:List (Int×Value×Nat)}(a:(l.map Xg).Nodup){x:Int}{v:Value}{n:Nat}(h:(x,v,n)∈l):ct (.int .i64 x) (EM l)=some (some (v,n)):=by
 induction l with
 |nil=>cases h
 | cons p l b=>
   obtain⟨y,w,m⟩:=p
   show(match cC (.int .i64 x) (.int .i64 y)with|none=>none|some true=>some (some (w,m))|some false=>ct (.int .i64 x) (EM l))=_
   rw [pV]
   rw [Xt,XJ]at a
   by_cases e:x=y
   . subst e
     rw [decide_eq_true rfl]
     simp only []
     rcases List.mem_cons.1 h with h|h
     . cases h;rfl
     . exact absurd (Xf (f:=Xg) h) a.1
   . rw [decide_eq_false e]
     simp only []
     rcases List.mem_cons.1 h with h|h
     . cases h;exact absurd rfl e
     . exact b a.2 h
theorem find_miss{l:List (Int×Value×Nat)}{x:Int}(h:x∉l.map Xg):ct (.int .i64 x) (EM l)=some none:=by
 induction l with
 |nil=>rfl
 | cons p l a=>
   obtain⟨y,w,m⟩:=p
   show(match cC (.int .i64 x) (.int .i64 y)with|none=>none|some true=>some (some (w,m))|some false=>ct (.int .i64 x) (EM l))=_
   rw [pV]
   simp only [Xt,Xy,not_or]at h
   rw [decide_eq_false h.1]
   exact a h.2
theorem q9{l:List (Int×Value×Nat)}(c:(l.map Xg).Nodup){x:Int}{v:Value}{n:Nat}(h:(x,v,n)∈l):
 ∃a b,l=a++(x,v,n)::b/\(∀w,kI (.int .i64 x) w (EM l)=EM (a++(x,w,n)::b))/\jN (.int .i64 x) (EM l)=EM (a++b):=by
 induction l with
 |nil=>cases h
 | cons p l d=>
   obtain⟨y,w,m⟩:=p
   rw [Xt,XJ]at c
   by_cases e:x=y
   . subst e
     rcases List.mem_cons.1 h with h|h
     . cases h
       refine⟨[],l,rfl,fun u=>?_,?_⟩
       . show(match cC (.int .i64 x) (.int .i64 x)with|some true=>_|_=>_)=_
         rw [pV,decide_eq_true rfl];rfl
       . show(match cC (.int .i64 x) (.int .i64 x)with|some true=>_|_=>_)=_
         rw [pV,decide_eq_true rfl];rfl
     . exact absurd (Xf (f:=Xg) h) c.1
   . rcases List.mem_cons.1 h with h|h
     . cases h;exact absurd rfl e
     . obtain⟨a,b,g,i,j⟩:=d c.2 h
       refine⟨(y,w,m)::a,b,by rw [g];rfl,fun u=>?_,?_⟩
       . show(match cC (.int .i64 x) (.int .i64 y)with|some true=>_|_=>(Value.int .i64 y,w,m)::kI (.int .i64 x) u (EM l))=_
         rw [pV,decide_eq_false e,i];rfl
       . show(match cC (.int .i64 x) (.int .i64 y)with|some true=>_|_=>(Value.int .i64 y,w,m)::jN (.int .i64 x) (EM l))=_
         rw [pV,decide_eq_false e,j];rfl
theorem rU{a b:List (Int×Value×Nat)}{x:Int}{v w:Value}{n:Nat}(c:((a++(x,v,n)::b).map fun p=>p.2.2).Nodup):iw n w (EM (a++(x,v,n)::b))=some (EM (a++(x,w,n)::b)):=by
 induction a with
 | nil=>
   show(bif XB n n then _ else _)=_
   rw [XX];rfl
 | cons p a d=>
   obtain⟨y,u,m⟩:=p
   rw [List.cons_append,Xt,XJ]at c
   have:XB m n=false:=by
    cases f:XB m n with
    |false=>rfl
    | true=>
      have e:=X8 f
      exact absurd (List.mem_map.2 ⟨(x,v,n),by simp,e.symm⟩) c.1
   show(bif XB m n then _ else match iw n w (EM (a++(x,v,n)::b))with|none=>none|some g=>some ((Value.int .i64 y,u,m)::g))=_
   rw [this,d c.2];rfl
theorem rB{a b:List (Int×Value×Nat)}{x:Int}{v:Value}{n:Nat}:(a++(x,v,n)::b).map Xg=a.map Xg++x::b.map Xg:=by simp
section
variable{es:List (Value×Value×Nat)}{c:Nat}{f:Int->Option Value}{x:Int}
theorem qw:dC [] 0 (fun _=>none):=⟨[],rfl,.nil,.nil,fun _ h=>(by cases h),fun x v=>⟨fun h=>(by cases h),fun⟨_,h⟩=>(by cases h)⟩⟩
theorem dC.hit(h:dC es c f){v:Value}(hf:f x=some v): ∃n,ct (.int .i64 x) es=some (some (v,n)):=by
 obtain⟨l,rfl,a,e,g,b⟩:=h
 obtain⟨n,d⟩:=(b x v).1 hf
 exact⟨n,xz a d⟩
theorem dC.miss(h:dC es c f)(hf:f x=none):ct (.int .i64 x) es=some none:=by
 obtain⟨l,rfl,e,g,i,a⟩:=h
 refine find_miss fun b=>?_
 obtain⟨⟨y,v,n⟩,d,rfl⟩:=List.mem_map.1 b
 have:=(a y v).2 ⟨n,d⟩
 rw [hf]at this;cases this
theorem sG{a b:List (Int×Value×Nat)}{v w:Value}{n:Nat}(j:((a++(x,v,n)::b).map Xg).Nodup)(k:((a++(x,v,n)::b).map fun p=>p.2.2).Nodup)(h: ∀p∈a++(x,v,n)::b,p.2.2<c)
 (l: ∀x' v',f x'=some v'↔ ∃o,(x',v',o)∈a++(x,v,n)::b):dC (EM (a++(x,w,n)::b)) c (dQ f x (some w)):=by
 have i:=j
 rw [rB,Xd]at i
 refine⟨_,rfl,by rw [rB];rwa [rB]at j,by rw [Xi,Xt]at k⊢;exact k,fun p g=>?_,fun y u=>?_⟩
 . rcases List.mem_append.1 g with g|g
   . exact h p (by simp [g])
   . rcases List.mem_cons.1 g with rfl|g
     . exact h (x,v,n) (by simp)
     . exact h p (by simp [g])
 . unfold dQ
   by_cases e:y=x
   . subst e
     rw [if_pos rfl]
     constructor
     . intro e;cases e;exact⟨n,by simp⟩
     . rintro⟨m,d⟩
       rcases List.mem_append.1 d with d|d
       . exact absurd rfl (i.2.2 y (Xf (f:=Xg) d) y (by simp))
       . rcases List.mem_cons.1 d with d|d
         . cases d;rfl
         . exact absurd (Xf (f:=Xg) d) (List.nodup_cons.1 i.2.1).1
   . rw [if_neg e,l]
     constructor<;>rintro⟨m,d⟩<;>refine⟨m,?_⟩
     . rcases List.mem_append.1 d with d|d
       . simp [d]
       . rcases List.mem_cons.1 d with d|d
         . cases d;exact absurd rfl e
         . simp [d]
     . rcases List.mem_append.1 d with d|d
       . simp [d]
       . rcases List.mem_cons.1 d with d|d
         . cases d;exact absurd rfl e
         . simp [d]
theorem sH{l:List (Int×Value×Nat)}{w:Value}(q:(l.map Xg).Nodup)(r:(l.map fun p=>p.2.2).Nodup)(j: ∀p∈l,p.2.2<c)(k: ∀x' v',f x'=some v'↔ ∃s,(x',v',s)∈l)(hf:f x=none):
 dC (EM (l++[(x,w,c)])) (c+1) (dQ f x (some w)):=by
 have o:x∉l.map Xg:=fun d=>by
  obtain⟨⟨y,v,n⟩,g,rfl⟩:=List.mem_map.1 d
  have:=(k y v).2 ⟨n,g⟩
  rw [hf]at this;cases this
 refine⟨_,rfl,?_,?_,fun p g=>?_,fun y u=>?_⟩
 . rw [Xi,Xd]
   exact⟨q,by simp,fun a i b h e=>o (by simp at h;subst h;subst e;exact i)⟩
 . rw [Xi,Xd]
   refine⟨r,by simp,fun a i b h e=>?_⟩
   simp at h;subst h
   obtain⟨p,g,rfl⟩:=List.mem_map.1 i
   have:=j p g;omega
 . rcases List.mem_append.1 g with g|g
   . have:=j p g;omega
   . simp at g;subst g;exact Nat.lt_succ_self c
 . unfold dQ
   by_cases e:y=x
   . subst e
     rw [if_pos rfl]
     constructor
     . intro e;cases e;exact⟨c,by simp⟩
     . rintro⟨m,d⟩
       rcases List.mem_append.1 d with d|d
       . exact absurd (Xf (f:=Xg) d) o
       . simp at d;rw [d.1]
   . rw [if_neg e,k]
     constructor<;>rintro⟨m,d⟩<;>refine⟨m,?_⟩
     . simp [d]
     . rcases List.mem_append.1 d with d|d
       . exact d
       . simp at d;exact absurd d.1 e
theorem em_app(l:List (Int×Value×Nat))(v:Value)(n:Nat):EM l++[(.int .i64 x,v,n)]=EM (l++[(x,v,n)]):=by unfold EM;rw [Xi];rfl
theorem dC.put(h:dC es c f)(v:Value): ∃d o,(match ct (.int .i64 x) es with|none=>none|some (some _)=>some (kI (.int .i64 x) v es,c)|some none=>some (es++[(.int .i64 x,v,c)],c+1))=some (d,o)/\dC d o (dQ f x (some v)):=by
 cases hf:f x with
 | none=>
   rw [h.miss hf]
   obtain⟨l,rfl,g,j,k,i⟩:=h
   exact⟨_,_,rfl,by rw [em_app];exact sH g j k i hf⟩
 | some w=>
   obtain⟨n,e⟩:=h.hit hf
   rw [e]
   obtain⟨l,rfl,g,j,k,i⟩:=h
   obtain⟨m,p⟩:=(i x w).1 hf
   obtain⟨a,b,rfl,q,_⟩:=q9 g p
   exact⟨_,_,rfl,by rw [q];exact sG g j k i⟩
theorem del_miss{l:List (Int×Value×Nat)}(h:x∉l.map Xg):jN (.int .i64 x) (EM l)=EM l:=by
 induction l with
 |nil=>rfl
 | cons p l a=>
   obtain⟨y,w,m⟩:=p
   simp only [Xt,Xy,not_or]at h
   show(match cC (.int .i64 x) (.int .i64 y)with|some true=>_|_=>(Value.int .i64 y,w,m)::jN (.int .i64 x) (EM l))=_
   rw [pV,decide_eq_false h.1,a h.2];rfl
theorem dC.del(h:dC es c f):dC (jN (.int .i64 x) es) c (dQ f x none):=by
 obtain⟨l,rfl,o,j,t,k⟩:=h
 cases hf:f x with
 | none=>
   have z:x∉l.map Xg:=fun d=>by
    obtain⟨⟨y,v,n⟩,i,rfl⟩:=List.mem_map.1 d
    have:=(k y v).2 ⟨n,i⟩
    rw [hf]at this;cases this
   rw [del_miss z]
   refine⟨l,rfl,o,j,t,fun y u=>?_⟩
   unfold dQ
   by_cases e:y=x
   . subst e;rw [if_pos rfl];exact⟨fun h=>(by cases h),fun⟨n,g⟩=>absurd (Xf (f:=Xg) g) z⟩
   . rw [if_neg e];exact k y u
 | some w=>
   obtain⟨m,d⟩:=(k x w).1 hf
   obtain⟨a,b,rfl,_,C⟩:=q9 o d
   rw [C]
   have A:=o
   rw [rB,Xd]at A
   obtain⟨D,q,B⟩:=A
   rw [XJ]at q
   refine⟨a++b,rfl,?_,?_,fun p i=>t p ?_,fun y u=>?_⟩
   . rw [Xi,Xd]
     exact⟨D,q.2,fun u r v s=>B u r v (by simp [s])⟩
   . rw [Xi,Xt,Xd]at j
     rw [Xi,Xd]
     exact⟨j.1,(List.nodup_cons.1 j.2.1).2,fun u r v s=>j.2.2 u r v (List.mem_cons_of_mem _ s)⟩
   . rcases List.mem_append.1 i with i|i<;>simp [i]
   . unfold dQ
     by_cases e:y=x
     . subst e
       rw [if_pos rfl]
       refine⟨fun h=>(by cases h),fun⟨n,g⟩=>?_⟩
       rcases List.mem_append.1 g with g|g
       . exact absurd rfl (B y (Xf (f:=Xg) g) y (by simp))
       . exact absurd (Xf (f:=Xg) g) q.1
     . rw [if_neg e,k]
       constructor<;>rintro⟨m,d⟩<;>refine⟨m,?_⟩
       . rcases List.mem_append.1 d with d|d
         . simp [d]
         . rcases List.mem_cons.1 d with d|d
           . cases d;exact absurd rfl e
           . simp [d]
       . rcases List.mem_append.1 d with d|d<;>simp [d]
theorem dC.ent(h:dC es c f)(z:Value): ∃d q n,(match ct (.int .i64 x) es with|none=>none|some (some (v,n))=>some (kI (.int .i64 x) v es,c,v,n)|some none=>some (es++[(.int .i64 x,z,c)],c+1,z,c))=some (d,q,(f x).getD z,n)/\dC d q (dQ f x (some ((f x).getD z)))/\
 ∀w,∃es2,iw n w d=some es2/\dC es2 q (dQ f x (some w)):=by
 cases hf:f x with
 | none=>
   rw [h.miss hf]
   obtain⟨l,rfl,g,i,j,o⟩:=h
   have k:=sH (w:=z) g i j o hf
   refine⟨_,_,_,rfl,by rw [em_app];exact k,fun w=>?_⟩
   rw [em_app]
   obtain⟨B,e,C,D,E,F⟩:=k
   have u:((l++(x,z,c)::[]).map fun p=>p.2.2).Nodup:=by
    rw [Xi,Xd]
    refine⟨i,by simp,fun a y b r e=>?_⟩
    simp at r;subst r
    obtain⟨p,A,rfl⟩:=List.mem_map.1 y
    have:=j p A;omega
   exact⟨_,rU u,sH g i j o hf⟩
 | some v=>
   obtain⟨l,rfl,g,i,j,o⟩:=h
   obtain⟨m,s⟩:=(o x v).1 hf
   rw [xz g s]
   obtain⟨a,b,rfl,t,_⟩:=q9 g s
   refine⟨_,_,_,rfl,by rw [t];exact sG g i j o,fun w=>?_⟩
   rw [t]
   exact⟨_,rU (by simpa using i),sG g i j o⟩
end

section
variable{M:Nat->Prop}{h0 h:Hp}{L:List (Nat×Ob)}{G:List GL}{E:Env}{t kt el:TypeId}{b c:Nat}{es:List (Value×Value×Nat)}{f:Int->Option Value}{x:Int}
theorem qH(a:E.und kt=some (.int .i64)):aX E kt (.int .i64 x)=true:=by simp only [aX,a];rfl
theorem qq(a:E.und t=some (.map kt el))(d:E.und kt=some (.int .i64)){z:Value}(g:E.zeroV el=some z)(i:h.get b=some (.map es c))(m:dC es c f):
 dr E h t (.map (some b)) (.int .i64 x) true=some (.tuple #[(f x).getD z,.bool (f x).isSome]):=by
 simp only [dr,a,qH d,cond_true,i]
 cases hf:f x with
 |none=>rw [m.miss hf];simp [g]
 |some v=>obtain⟨n,e⟩:=m.hit hf;rw [e];simp
theorem pB(a:E.und t=some (.map kt el))(d:E.und kt=some (.int .i64)){z:Value}(g:E.zeroV el=some z)(i:h.get b=some (.map es c))(m:dC es c f):
 dr E h t (.map (some b)) (.int .i64 x) false=some ((f x).getD z):=by
 simp only [dr,a,qH d,cond_true,i]
 cases hf:f x with
 |none=>rw [m.miss hf];simp [g]
 |some v=>obtain⟨n,e⟩:=m.hit hf;rw [e];simp
theorem nJ{x:Blk}{a:List (Value×Value×Nat)}{d:Nat}(e:h.get b=some x):(h.put b (.map a d)).get b=some (.map a d):=by rw [Hp.get_put,if_pos ⟨rfl,by rw [e];rfl⟩]
theorem St.mputI(S:St M h0 h L G){i:Nat}(j:L[i]? =some (b,.map es c))(l:E.und t=some (.map kt el))(n:E.und kt=some (.int .i64))(m:dC es c f)(v:Value):
 ∃g,iu E h t (.map (some b)) (.int .i64 x) v=some g/\Mo (· =b) h g/\ ∃a e,dC a e (dQ f x (some v))/\St M h0 g (L.set i (b,.map a e)) G:=by
 have k:h.get b=some (.map es c):=(S.own _ (Xb j)).2
 obtain⟨a,e,d,o⟩:=m.put (x:=x) v
 refine⟨h.put b (.map a e),?_,(Mo.refl (M:=(· =b)) S.ok).put (.inr rfl) _,a,e,o,S.put j (o':=.map a e) (nJ k)⟩
 simp only [iu,jH,l,qH n,cond_true,k]
 revert d
 cases ct (.int .i64 x) es with
 |none=>intro d;cases d
 | some r=>cases r with
   |none=>intro d;cases d;rfl
   |some _=>intro d;cases d;rfl
theorem St.mdelI(S:St M h0 h L G){i:Nat}(g:L[i]? =some (b,.map es c))(l:E.und t=some (.map kt el))(o:E.und kt=some (.int .i64))(m:dC es c f):
 ∃d,lh E h t (.map (some b)) (.int .i64 x)=some d/\Mo (· =b) h d/\ ∃a j,dC a j (dQ f x none)/\St M h0 d (L.set i (b,.map a j)) G:=by
 have k:h.get b=some (.map es c):=(S.own _ (Xb g)).2
 refine⟨h.put b (.map (jN (.int .i64 x) es) c),?_,(Mo.refl (M:=(· =b)) S.ok).put (.inr rfl) _,_,c,m.del (x:=x),S.put g (o':=.map _ c) (nJ k)⟩
 simp only [lh,jH,l,qH o,cond_true,k]
 cases hf:f x with
 |none=>rw [m.miss hf]
 |some v=>obtain⟨n,e⟩:=m.hit hf;rw [e]
theorem St.mentI(S:St M h0 h L G){i:Nat}(l:L[i]? =some (b,.map es c))(p:E.und t=some (.map kt el))(s:E.und kt=some (.int .i64)){z:Value}(u:E.zeroV el=some z)(m:dC es c f):
 ∃ k n,jk E h t (.map (some b)) (.int .i64 x)=some (k,.tuple #[(f x).getD z,.int .i64 (Int.ofNat n)])/\Mo (· =b) h k/\ ∃e j,dC e j (dQ f x (some ((f x).getD z)))/\St M h0 k (L.set i (b,.map e j)) G/\
   ∀w,∃es2,iw n w e=some es2/\dC es2 j (dQ f x (some w)):=by
 have o:h.get b=some (.map es c):=(S.own _ (Xb l)).2
 obtain⟨e,j,n,g,v,y⟩:=m.ent (x:=x) z
 refine⟨h.put b (.map e j),n,?_,(Mo.refl (M:=(· =b)) S.ok).put (.inr rfl) _,e,j,v,S.put l (o':=.map e j) (nJ o),y⟩
 simp only [jk,jH,p,qH s,cond_true,o,u]
 revert g
 cases ct (.int .i64 x) es with
 |none=>intro g;cases g
 | some r=>cases r with
   |none=>intro g;simp only [Option.some.injEq,Prod.mk.injEq]at g;obtain⟨a,b,c,d⟩:=g;subst a b d;rw [<-c]
   |some q=>obtain⟨A,B⟩:=q;intro g;simp only [Option.some.injEq,Prod.mk.injEq]at g;obtain⟨a,b,c,d⟩:=g;subst a b d;rw [<-c]
theorem St.mstoreI(S:St M h0 h L G){i n:Nat}(d:L[i]? =some (b,.map es c)){w:Value}{es2:List (Value×Value×Nat)}(g:iw n w es=some es2):
 ∃a,kM h (.map (some b)) (.int .i64 (Int.ofNat n)) w=some a/\Mo (· =b) h a/\St M h0 a (L.set i (b,.map es2 c)) G:=by
 have e:h.get b=some (.map es c):=(S.own _ (Xb d)).2
 refine⟨h.put b (.map es2 c),?_,(Mo.refl (M:=(· =b)) S.ok).put (.inr rfl) _,S.put d (o':=.map es2 c) (nJ e)⟩
 simp only [kM,e,ig,g]
end
end Go.Ab

end
section
namespace Go.Ab
def j9(x:Hd):List Value:=[.int .i64 x.id,.int .i64 x.key]
theorem jL(x:Hd):(j9 x).length=2:=rfl
structure dI(cs:List Value)(cap:Nat)(l:List Hd):Prop where
 len:cs.length=cap*2
 le:l.length<=cap
 at0: ∀i,i<l.length->cs[i*2]? =some (.int .i64 (l.getD i default).id)/\cs[i*2+1]? =some (.int .i64 (l.getD i default).key)
def jI(f:Int->Option Value)(l:List Hd):Prop:=(∀i,i<l.length->f (l.getD i default).id=some (.int .i64 i))/\ ∀x v,f x=some v-> ∃i,i<l.length/\x=(l.getD i default).id
section
variable{h:Hp}{bl cap i:Nat}{cs:List Value}{l:List Hd}{md:Nat}
theorem dI.ld0(c:dI cs cap l)(r:Row h bl cs md)(a:i<l.length):h.load bl (i*2) 1=some [.int .i64 (l.getD i default).id]:=r.load1 (c.at0 i a).1
theorem dI.ld1(c:dI cs cap l)(r:Row h bl cs md)(a:i<l.length):h.load bl (i*2+1) 1=some [.int .i64 (l.getD i default).key]:=r.load1 (c.at0 i a).2
theorem dI.ld2(c:dI cs cap l)(r:Row h bl cs md)(a:i<l.length):h.load bl (i*2) 2=some [.int .i64 (l.getD i default).id,.int .i64 (l.getD i default).key]:=by
 have d:=(c.at0 i a).1
 have b:=(c.at0 i a).2
 have e:=(List.getElem?_eq_some_iff.1 b).1
 rw [r.load (by omega)]
 congr 1
 rw [XU (by omega),XU (by omega)]
 simp only [XH,XQ]
 rw [(List.getElem?_eq_some_iff.1 d).2,(List.getElem?_eq_some_iff.1 b).2]
theorem sU{x y:Value}(c:i*2+2<=cs.length)(j:Nat):(lay cs (i*2) [x,y])[j]? =if j=i*2 then some x else if j=i*2+1 then some y else cs[j]? :=by
 rw [js (by simpa using c)]
 simp only [Xv,X4]
 by_cases a:j=i*2
 . subst a;simp
 . by_cases b:j=i*2+1
   . subst b;simp
   . rw [if_neg a,if_neg b,if_neg (by omega)]
theorem dI.set(c:dI cs cap l)(d:i<l.length)(x:Hd):dI (lay cs (i*2) [.int .i64 x.id,.int .i64 x.key]) cap (l.set i x):=by
 have f:=c.len
 have hle:=c.le
 have a:i*2+2<=cs.length:=by omega
 refine⟨by rw [nT (by simpa using a)];exact f,by rw [Xs];exact hle,fun j b=>?_⟩
 rw [Xs]at b
 rw [sU a,sU a,jS]
 by_cases e:i=j
 . subst e;simp [d]
 . rw [if_neg (by omega),if_neg (by omega),if_neg (by omega),if_neg (by omega),if_neg (by omega)]
   exact c.at0 j b
theorem dI.setKey(c:dI cs cap l)(a:i<l.length)(k:Int):dI (lay cs (i*2+1) [.int .i64 k]) cap (l.set i ⟨(l.getD i default).id,k⟩):=by
 have f:=c.len
 have hle:=c.le
 have e:lay cs (i*2+1) [.int .i64 k]=lay cs (i*2) [.int .i64 (l.getD i default).id,.int .i64 k]:=by
  refine Xo fun j=>?_
  rw [sU (by omega),js (by simp;omega)]
  simp only [Xv,X4]
  by_cases b:j=i*2
  . subst b;rw [if_neg (by omega),if_pos rfl];exact(c.at0 i a).1
  . by_cases d:j=i*2+1
    . subst d;rw [if_pos (by omega)];simp
    . rw [if_neg (by omega),if_neg b,if_neg d]
 rw [e]
 exact c.set a ⟨(l.getD i default).id,k⟩
end
theorem set_sw(l:List Hd)(i k:Nat):(l.set i (l.getD k default)).set k (l.getD i default)=sw l i k:=rfl
theorem jI.inj{f:Int->Option Value}{l:List Hd}(h:jI f l){i j:Nat}(b:i<l.length)(c:j<l.length)(e:(l.getD i default).id=(l.getD j default).id):i=j:=by
 have a:=h.1 i b
 have d:=h.1 j c
 rw [e,d]at a
 injection a with a
 injection a with _ a
 omega
theorem jI.swap{f:Int->Option Value}{l:List Hd}(h:jI f l){i k:Nat}(c:i<l.length)(g:k<l.length):
 jI (dQ (dQ f ((sw l i k).getD i default).id (some (.int .i64 i))) ((sw l i k).getD k default).id (some (.int .i64 k))) (sw l i k):=by
 have m:=iK l c g i
 have p:=iK l c g k
 rw [if_pos rfl]at p
 refine⟨fun j n=>?_,fun x v q=>?_⟩
 . rw [gX]at n
   have d:=iK l c g j
   unfold dQ
   by_cases a:j=k
   . subst a;rw [if_pos rfl]
   . rw [if_neg a]at d
     by_cases b:j=i
     . subst b
       rw [if_neg,if_pos rfl]
       rw [if_neg a,if_pos rfl]at m
       rw [m,p]
       intro e
       exact a (h.inj g c (by omega)).symm
     . rw [if_neg b]at d
       rw [if_neg,if_neg]
       . rw [d];exact h.1 j n
       . rw [d,m]
         intro e
         split at e
         . exact b (h.inj n c (by omega))
         . rename_i r;rw [if_pos rfl]at e;exact a (h.inj n g (by omega))
       . rw [d,p]
         intro e
         exact b (h.inj n c (by omega))
 . unfold dQ at q
   by_cases a:x=((sw l i k).getD k default).id
   . exact⟨k,by rw [gX];exact g,a⟩
   . rw [if_neg a]at q
     by_cases b:x=((sw l i k).getD i default).id
     . exact⟨i,by rw [gX];exact c,b⟩
     . rw [if_neg b]at q
       obtain⟨j,n,e⟩:=h.2 x v q
       refine⟨j,by rw [gX];exact n,?_⟩
       have d:=iK l c g j
       by_cases r:j=k
       . subst r
         exfalso
         rw [e]at b
         by_cases o:i=j
         . subst o;rw [if_pos rfl]at m;exact b (by rw [m])
         . rw [if_neg o,if_pos rfl]at m;exact b (by rw [m])
       . by_cases o:j=i
         . subst o;exfalso;rw [p]at a;exact a e
         . rw [if_neg r,if_neg o]at d;rw [d];exact e
structure eX(h:Hp)(bh bl bm cap:Nat)(n:Int)(l:List Hd):Prop where
 row:Row h bh [.slice (some ⟨bl,0,some 2⟩) l.length cap,.map (some bm),.int .i64 n] 1
 ex: ∃cs es c f,Row h bl cs 1/\h.get bm=some (.map es c)/\dI cs cap l/\dC es c f/\jI f l
 ne:bh≠bl/\bh≠bm/\bl≠bm
theorem eX.mo{M:Nat->Prop}{h k:Hp}{e i j cap:Nat}{n:Int}{l:List Hd}(r:eX h e i j cap n l)(g:Mo M h k)(p: ¬M e)(q: ¬M i)(s: ¬M j):eX k e i j cap n l:=by
 obtain⟨t,m,c,f,a,b,d⟩:=r.ex
 exact⟨g.has (o:=.row _ 1) r.row p,⟨t,m,c,f,g.has (o:=.row _ 1) a q,g.has (o:=.map m c) b s,d⟩,r.ne⟩
theorem eX.mo1{M:Nat->Prop}{h f:Hp}{a b d cap:Nat}{n:Int}{l:List Hd}(r:eX h a b d cap n l)(g:Mo M h f)(e: ∀c,c=a\/c=b\/c=d-> ¬M c):eX f a b d cap n l:=
 r.mo g (e _ (.inl rfl)) (e _ (.inr (.inl rfl))) (e _ (.inr (.inr rfl)))
theorem eX.lt{h:Hp}(e:h.t.Sized h.n){g i j cap:Nat}{n:Int}{l:List Hd}(r:eX h g i j cap n l): ∀c,c=g\/c=i\/c=j->c<h.n:=by
 obtain⟨k,m,c,f,a,b,d⟩:=r.ex
 rintro c (rfl|rfl|rfl)
 . exact r.row.lt e
 . exact a.lt e
 . exact gJ e b
theorem eX.gr{h a:Hp}{b c d cap:Nat}{n:Int}{l:List Hd}(r:eX h b c d cap n l)(g:Gr h a):eX a b c d cap n l:=r.mo (M:=NoM) g.fr (fun h=>h) (fun h=>h) (fun h=>h)
theorem St.init2{M:Nat->Prop}{h:Hp}(d:h.t.Sized h.n){b1 a:Nat}{o1 o2:Ob}(e:Has h b1 o1)(f:Has h a o2)(b:b1≠a)(m1:M b1)(m2:M a):St M h h [(b1,o1),(a,o2)] []:=by
 refine⟨Mo.refl d,fun p c=>?_,fun _ h=>(by cases h),by simp [keys,b]⟩
 simp only [Xy,XF,or_false]at c
 rcases c with rfl|rfl
 . exact⟨.inr m1,e⟩
 . exact⟨.inr m2,f⟩
theorem St.init3{M:Nat->Prop}{h:Hp}(d:h.t.Sized h.n){b1 a b:Nat}{o1 o2 o3:Ob}(e:Has h b1 o1)(f:Has h a o2)(g:Has h b o3)(i:b1≠a)(j:b1≠b)(k:a≠b)(m1:M b1)(m2:M a)(m3:M b):St M h h [(b1,o1),(a,o2),(b,o3)] []:=by
 refine⟨Mo.refl d,fun p c=>?_,fun _ h=>(by cases h),by simp [keys,i,j,k]⟩
 simp only [Xy,XF,or_false]at c
 rcases c with rfl|rfl|rfl
 . exact⟨.inr m1,e⟩
 . exact⟨.inr m2,f⟩
 . exact⟨.inr m3,g⟩
end Go.Ab

end
section
namespace Go.Ab
theorem jI.push{f:Int->Option Value}{l:List Hd}(h:jI f l){x:Hd}(g:x.id∉l.map Hd.id):jI (dQ f x.id (some (.int .i64 l.length))) (l++[x]):=by
 refine⟨fun i b=>?_,fun y v c=>?_⟩
 . unfold dQ
   simp at b
   by_cases e:i=l.length
   . subst e
     have:(l++[x]).getD l.length default=x:=by simp [zO]
     rw [this,if_pos rfl]
   . rw [kz l _ (by omega),if_neg ?_]
     . exact h.1 i (by omega)
     . intro d
       apply g
       have a:i<l.length:=by omega
       refine List.mem_map.2 ⟨l.getD i default,?_,by omega⟩
       rw [zO,Xx a]
       exact XL a
 . unfold dQ at c
   by_cases e:y=x.id
   . refine⟨l.length,by simp,?_⟩
     have:(l++[x]).getD l.length default=x:=by simp [zO]
     rw [this];exact e
   . rw [if_neg e]at c
     obtain⟨i,b,d⟩:=h.2 y v c
     exact⟨i,by simp;omega,by rw [kz l _ b];exact d⟩
theorem jI.cut{f:Int->Option Value}{l:List Hd}(h:jI f l){m:Nat}(g:l.length=m+1):jI (dQ f (l.getD m default).id none) (l.take m):=by
 refine⟨fun i b=>?_,fun y v a=>?_⟩
 . rw [Xm]at b
   rw [getD_take l (by omega)]
   unfold dQ
   rw [if_neg ?_]
   . exact h.1 i (by omega)
   . intro e
     have:=h.inj (i:=i) (j:=m) (by omega) (by omega) (by omega)
     omega
 . unfold dQ at a
   by_cases e:y=(l.getD m default).id
   . rw [if_pos e]at a;cases a
   . rw [if_neg e]at a
     obtain⟨i,b,c⟩:=h.2 y v a
     have:i≠m:=fun d=>by subst d;exact e c
     exact⟨i,by rw [Xm];omega,by rw [getD_take l (by omega)];exact c⟩
theorem jI.setKey{f:Int->Option Value}{l:List Hd}(h:jI f l){i:Nat}(k:Int):jI f (l.set i ⟨(l.getD i default).id,k⟩):=by
 have e: ∀j,((l.set i ⟨(l.getD i default).id,k⟩).getD j default).id=(l.getD j default).id:=fun j=>by
  rw [jS]
  split
  . rename_i e;rw [e.1]
  . rfl
 refine⟨fun j a=>?_,fun y v b=>?_⟩
 . rw [e];exact h.1 j (by rwa [Xs]at a)
 . obtain⟨j,a,c⟩:=h.2 y v b
   exact⟨j,by rwa [Xs],by rw [e];exact c⟩
theorem idxF_nil:jI (fun _=>none) []:=⟨fun i a=>by simp at a,fun x v h=>by cases h⟩
theorem dI.take{cs:List Value}{cap:Nat}{l:List Hd}(c:dI cs cap l)(m:Nat):dI cs cap (l.take m):=
 ⟨c.len,Xw (by rw [Xm];omega) c.le,fun i a=>by
  rw [Xm]at a
  rw [getD_take l (by omega)]
  exact c.at0 i (by omega)⟩
theorem dI.push{cs a:List Value}{cap cap':Nat}{l:List Hd}(c:dI cs cap l){x:Hd}(d:a.length=cap'*2)(h:l.length<cap')(b: ∀j,j<l.length*2->a[j]? =cs[j]?)(f:a[l.length*2]? =some (.int .i64 x.id)/\a[l.length*2+1]? =some (.int .i64 x.key)):dI a cap' (l++[x]):=by
 refine⟨d,by simp;omega,fun i g=>?_⟩
 simp at g
 by_cases e:i=l.length
 . subst e
   have:(l++[x]).getD l.length default=x:=by simp [zO]
   rw [this];exact f
 . rw [kz l _ (by omega),b _ (by omega),b _ (by omega)]
   exact c.at0 i (by omega)
theorem yw{E:Env}{t e:TypeId}{b k len cap n:Nat}{kd:IntKind}(c:E.und t=some (.slice e))(d:E.sz e=some k)(f:n<=cap):fi E t (.slice (some ⟨b,0,some k⟩) len cap) none (some (.int kd (n:Int))) none=some (.slice (some ⟨b,0,some k⟩) n cap):=by
 have a: ∀n:Nat,ig (n:Int)=some n:=fun n=>rfl
 simp only [fi,c,eR,eC,a,Xh f,cond_true,d,XK,cond_false,Yd,Xn,XY,XX]
 cases XB cap 0<;>rfl
section
variable{M:Nat->Prop}{h0 h:Hp}{L:List (Nat×Ob)}{G:List GL}{E:Env}{t tx e:TypeId}{by_:Nat}{zs:List Value}
theorem St.appH{g cap:Nat}{cs:List Value}{l:List Hd}(S:St M h0 h ((g,.row cs 1)::L) G)(C:dI cs cap l)(B:E.und t=some (.slice e))(N:dX E e by_ 2 zs)(O:0<by_)(P:by_<=100)(r:dE E tx=some false){x:Hd}{D:Value}(d:aG h 2 D=some (1,j9 x))(W:l.length<1000000){ts:List TypeId}:
 ∃F w,c6 E h (t::tx::ts) (.slice (some ⟨g,0,some 2⟩) l.length cap) D=some (F,w)/\ ∃b cap' k,w=.slice (some ⟨b,0,some 2⟩) (l.length+1) cap'/\St M h0 F ((b,.row k 1)::L) G/\dI k cap' (l++[x])/\(b=g\/h.n<=b):=by
 obtain⟨⟨i,H,rfl,a⟩,Q,u⟩:=N
 have I:Row h g cs 1:=S.row m0
 have m:=C.len
 by_cases R:l.length+1<=cap
 . obtain⟨y,J,U⟩:=I.store S.ok ono (o:=l.length*2) (vs:=j9 x) (by rw [jL];omega) rfl
   refine⟨h.put g y,_,?_,g,cap,_,rfl,S.put (i:=0) rfl U,?_,.inl rfl⟩
   . simp only [c6,r,jv,B,H,a,d]
     unfold eJ
     rw [Xh R]
     simp only [cond_true,j9,a,Xl]
     unfold j9 at J
     rw [J]
   . refine C.push (by rw [nT (by rw [jL];omega)];exact m) (by omega) (fun j V=>?_) ⟨?_,?_⟩
     . rw [js (by rw [jL];omega),if_neg (by omega)]
     . rw [js (by rw [jL];omega),if_pos ⟨XA _,by rw [jL];omega⟩,Nat.sub_self];rfl
     . rw [js (by rw [jL];omega),if_pos ⟨by omega,by rw [jL];omega⟩,Nat.add_sub_cancel_left];rfl
 . have K:cap=l.length:=by have:=C.le;omega
   obtain⟨s,el,p,f,v⟩:=I
   have z:jn s cs.length 0 (l.length*2) (j9 x)=some (s.pushAll cs.length (j9 x),cs.length+2):=by
    unfold jn
    rw [show l.length*2=cs.length by omega,XX,XX];rfl
   have T:=S.dead.new (x:=.cells (s.pushAll cs.length (j9 x)) (cs.length+2) e 1) (o:=.row (cs++j9 x) 1) (by
    refine⟨s.pushAll cs.length (j9 x),e,?_,?_,fun n=>?_⟩
    . rw [Hp.get_new _ _ S.dead.ok,if_pos rfl,Xz];rfl
    . rw [Xz];exact Tr.sized_pushAll _ f
    . rw [Tr.get_pushAll _ _ _ f,XO]
      split
      . exact v n
      . rfl)
   refine⟨_,.slice (some ⟨h.n,0,some 2⟩) (l.length+1) (l.length+1),?_,h.n,l.length+1,_,rfl,T,?_,.inr (XA _)⟩
   . simp only [c6,r,jv,B,H,a,d]
     unfold eJ
     have q:XM (l.length+1) cap=false:=by
      cases r:XM (l.length+1) cap with
      |false=>rfl
      |true=>exact absurd (lbt r) (by omega)
     rw [q]
     simp only [cond_false]
     have c:(XM ((l.length+1)*(i.bytes+1)) 70368744177664&&Nat.blt 0 i.bytes)=true:=by
      have:(l.length+1)*(i.bytes+1)<=1000000*101:=Nat.mul_le_mul (by omega) (by omega)
      rw [Xh (by omega)]
      simp only [Bool.true_and]
      rw [Ya];exact O
     have A:XB zs.length i.size=true:=by rw [u,a];rfl
     rw [c,Q]
     simp only [cond_true,A]
     unfold mU
     simp only [p,a,z]
     rfl
   . refine C.push (by rw [Xz,jL];omega) (by omega) (fun j V=>?_) ⟨?_,?_⟩
     . rw [Xe (by omega)]
     . rw [Xc (by omega),show l.length*2-cs.length=0 by omega];rfl
     . rw [Xc (by omega),show l.length*2+1-cs.length=1 by omega];rfl
theorem St.appH0(S:St M h0 h L G)(p:E.und t=some (.slice e))(q:dX E e by_ 2 zs)(r:0<by_)(s:by_<=100)(u:dE E tx=some false){x:Hd}{m:Value}(d:aG h 2 m=some (1,j9 x)){ts:List TypeId}:
 ∃n w,c6 E h (t::tx::ts) (.slice none 0 0) m=some (n,w)/\ ∃b cap' f,w=.slice (some ⟨b,0,some 2⟩) 1 cap'/\St M h0 n ((b,.row f 1)::L) G/\dI f cap' [x]/\h.n<=b:=by
 obtain⟨⟨i,j,rfl,c⟩,v,k⟩:=q
 have T:=S.new (x:=.cells (Tr.ofList (j9 x)) 2 e 1) (o:=.row (j9 x) 1) (oe S.ok (j9 x) e 1)
 refine⟨_,.slice (some ⟨h.n,0,some 2⟩) 1 1,?_,h.n,1,_,rfl,T,⟨rfl,by simp,fun i j=>?_⟩,XA _⟩
 . simp only [c6,u,jv,p,j,c,d]
   unfold eJ
   have g:XM (0+1) 0=false:=rfl
   rw [g]
   simp only [cond_false]
   have a:(XM ((0+1)*(i.bytes+1)) 70368744177664&&Nat.blt 0 i.bytes)=true:=by
    rw [Xh (by omega)]
    simp only [Bool.true_and]
    rw [Ya];exact r
   have l:XB zs.length i.size=true:=by rw [k,c];rfl
   rw [a,v]
   simp only [cond_true,l]
   unfold mU
   rw [show XB 0 0=true from rfl,c]
   rfl
 . have:i=0:=by simpa using j
   subst this;exact⟨rfl,rfl⟩
theorem St.rowS{i b d n cap c:Nat}{N:Int}{cs:List Value}{g:List (Value×Value×Nat)}{l:List Hd}{f:Int->Option Value}(S:St M h0 h [(b,.row cs 1),(i,.row [.slice (some ⟨b,0,some 2⟩) n cap,.map (some d),.int .i64 N] 1),(d,.map g c)] [])(C:dI cs cap l)(j:n=l.length)(k:dC g c f)(m:jI f l):eX h i b d cap N l:=by
 subst j
 have a:=S.apart
 simp only [keys,Xt,List.map_nil,List.filterMap_nil,List.append_nil,XJ,Xy,XF,or_false,not_or]at a
 exact⟨S.row m1,⟨cs,g,c,f,S.row m0,(S.own _ m2).2,C,k,m⟩,fun e=>a.1.1 e.symm,a.2.1,a.1.2⟩
end
theorem lq{ρ:Operand->Value}{b:Bool}{t:TypeId}{a v:Operand}{h c:Hp}:cH ρ b (.store t a v) h c=(match ρ a with| .pointer (some a)=>some (.blk a.block)|_=>none):=by
 simp only [cH,dK,jO,eS,touch,cond_false]
 cases ρ a<;>first|rfl|(rename_i x;cases x<;>rfl)
theorem ym{ρ:Operand->Value}{b:Bool}{x:Operand}{ts:Array TypeId}{h c:Hp}:cH ρ b (.call ⟨.builtin .len,#[x],ts⟩) h c=(match ρ x with| .map (some r)=>some (.blk r)| .slice (some a) _ _=>some (.blk a.block)|_=>none):=by
 simp only [cH,dK,jO,eS,touch,cond_false]
 cases ρ x<;>first|rfl|(rename_i x;cases x<;>rfl)|(rename_i x _ _;cases x<;>rfl)
theorem dn_del{E:Env}{cx:Cx}{Q:eG}{a:List Oper}{q:Nat}{ps:List (Nat×Nat)}{o:Oper}{os:List Oper}{i:Nat}{k:List Fr}{l:Loc}{c:Hp->List (Nat×Tch)}{h:Hp}{t:TypeId}{m key:Value}{P:Hp->Prop}(d: ∃b,lh E h t m key=some b/\P b)
 (f: ∀b,P b->Run E (lim E) cx Q (.opsD a q ps os (i+1) (c b)::k) .normal (l.put o.dst (.tuple #[])) b):DN E cx Q a q ps o os i k l c (delR E h t m key):=by
 obtain⟨b,e,g⟩:=d
 unfold delR
 rw [e]
 exact f b g
structure cQ(h:Hp)(F:List Nat)(p:Value)(N:Nat)(K:Nat->Option Int):Prop where
 ex: ∃bh bm l,p=ptrTo bh/\lK l/\ic l K/\(∀x∈l,x.id<N)/\
  ((l=[]/\F=[bh,bm]/\bh≠bm/\Row h bh [.slice none 0 0,.map (some bm),.int .i64 N] 1/\ ∃es c,h.get bm=some (.map es c)/\dC es c (fun _=>none))\/ ∃bl cap,F=[bh,bl,bm]/\eX h bh bl bm cap N l)
theorem cQ.mo{M:Nat->Prop}{h i:Hp}{F:List Nat}{p:Value}{N:Nat}{K:Nat->Option Int}(a:cQ h F p N K)(g:Mo M h i)(d: ∀b∈F,¬M b):cQ i F p N K:=by
 obtain⟨m,n,l,e,q,r,s,t⟩:=a.ex
 refine⟨m,n,l,e,q,r,s,?_⟩
 rcases t with⟨u,rfl,v,w,j,c,x,y⟩|⟨z,f,rfl,k⟩
 . exact .inl ⟨u,rfl,v,g.has (o:=.row _ 1) w (d _ (by simp)),j,c,g.has (o:=.map j c) x (d _ (by simp)),y⟩
 . exact .inr ⟨z,f,rfl,k.mo g (d _ (by simp)) (d _ (by simp)) (d _ (by simp))⟩
theorem cQ.gr{h b:Hp}{F:List Nat}{p:Value}{N:Nat}{K:Nat->Option Int}(a:cQ h F p N K)(g:Gr h b):cQ b F p N K:=a.mo (M:=NoM) g.fr (fun _ _ h=>h)
theorem cQ.lt{h:Hp}(f:h.t.Sized h.n){F:List Nat}{p:Value}{N:Nat}{K:Nat->Option Int}(a:cQ h F p N K): ∀b∈F,b<h.n:=by
 obtain⟨n,o,l,e,q,r,s,g⟩:=a.ex
 rcases g with⟨t,rfl,u,i,v,c,j,w⟩|⟨x,m,rfl,k⟩
 . intro b d
   simp at d
   rcases d with rfl|rfl
   . exact i.lt f
   . exact gJ f j
 . intro b d
   simp at d
   exact k.lt f b d
theorem sk{l:List Hd}{K:Nat->Option Int}(h:ic l K){N:Nat}(a: ∀x∈l,x.id<N):l.length<=N:=by
 have:=oG N (l.map Hd.id) h.1 (fun x b=>by obtain⟨y,c,rfl⟩:=List.mem_map.1 b;exact a y c)
 simpa using this
end Go.Ab

end
section
namespace Go.Ab
def lE(E:Env)(g:FuncId)(a post:List Value)(h0:Hp)(D:Nat->Prop)(xs:List (List Value)):Prop:=
 ∀b J Z,(∀v h,¬Z (.pan v) h)->Yld E b J Z xs-> ∀h F,ItS h0 D h F->J 0 h F->fS E g (a++[.func (.yield b) #[] #[]]++post) none h (YQ J Z xs.length)
theorem iter_useN{E:Env}{g:FuncId}{a post:List Value}{h0:Hp}{D:Nat->Prop}{xs:List (List Value)}(H:lE E g a post h0 D xs){c:Nat}{J:Nat->Hp->List Nat->Prop}{Z:Out->Hp->Prop}(i: ∀v h,¬Z (.pan v) h)(Y:Yld E c J Z xs)
 {h:Hp} {F:List Nat} (d:Mo (fun b=> ¬D b) h0 h) (j: ∀b∈F,b<h0.n-> ¬D b) (f:J 0 h F):fS E g (a++[.func (.yield c) #[] #[]]++post) none h (YQ J Z xs.length):=
 H c J Z i Y h F ⟨d.ok,d.n,fun b e k=>d.get b e (fun l=>l k),fun b e h=>j b e h.1 h.2,(Y.lt 0 h F f).2⟩ f
theorem dn_yield{E:Env}{cx:Cx}{Q:eG}{a:List Oper}{q:Nat}{ps:List (Nat×Nat)}{o:Oper}{os:List Oper}{i:Nat}{k:List Fr}{l:Loc}{e:Hp->List (Nat×Tch)}{h0 h:Hp}{D:Nat->Prop}{f j:Nat}{J:Nat->Hp->List Nat->Prop}{Z:Out->Hp->Prop}{xs:List (List Value)}{x:List Value}{F:List Nat}
 (g: ∀v h,¬Z (.pan v) h) (Y:Yld E f J Z xs) (s:ItS h0 D h F) (m:J j h F) (n:xs[j]? =some x)
 (p: ∀d F',J (j+1) d F'->ItS h0 D d F'->Mo (· ∈F) h d->(∀b∈F',b∈F\/h.n<=b)->Run E (lim E) cx Q (.opsD a q ps os (i+1) (e d)::k) .normal (l.put o.dst (.bool true)) d)
 (k2: ∀d,Z (.ret (.bool false)) d->d.t.Sized d.n->Run E (lim E) cx Q (.opsD a q ps os (i+1) (e d)::k) .normal (l.put o.dst (.bool false)) d):DN E cx Q a q ps o os i k l e (some (.yield f x,h)):=by
 obtain⟨r,d,t,u⟩:=Y.round j x h F n m
 refine⟨r,d,t,?_⟩
 rcases u with⟨rfl,F',a,b,c⟩|⟨rfl,a,b⟩|⟨⟨v,rfl⟩,a⟩
 . exact p d F' a (s.mo b c (Y.lt _ _ _ a).2) b c
 . exact k2 d a b
 . exact g v d a
def dT(h a:Hp):Prop:= ∀b,b<h.n->a.get b=h.get b
theorem dT.load{h a:Hp}(c:h.t.Sized h.n)(g:dT h a){b o n:Nat}{l:List Value}(e:h.load b o n=some l):a.load b o n=some l:=by
 have:=g b (bD c e)
 unfold Hp.load at e⊢
 rw [this];exact e
theorem dT.row{h a:Hp}(c:h.t.Sized h.n)(g:dT h a){b:Nat}{l:List Value}{md:Nat}(r:Row h b l md):Row a b l md:=Row.of_get (g b (r.lt c)) r
theorem au.keep{α:Type}{h a:Hp}{k:Nat}{enc:α->List Value}{v:Value}{xs:List α}(d:h.t.Sized h.n)(g:dT h a)(s:au h k enc v xs):au a k enc v xs:=by
 rcases s with s|⟨b,o,s,c,e,f,i⟩
 . exact .inl s
 . exact .inr ⟨b,o,s,c,e,f,g.load d i⟩
theorem gf.keep{h d:Hp}{v:Value}{m N:Nat}{R:Nat->List Nat}(e:h.t.Sized h.n)(g:dT h d)(r:gf h m v N R):gf d m v N R:=by
 obtain⟨f,j,k,l,n,o,p⟩:=r
 exact⟨f,j,k,l,g.row e n,o,fun i q=>by
  obtain⟨w,a,b,c⟩:=p i q
  exact⟨w,a,b.keep e g,c⟩⟩
theorem aR.keep{h d:Hp}{m:Nat}{p:Value}{e:Gra}(a:h.t.Sized h.n)(g:dT h d)(n:aR h m p e):aR d m p e:=by
 obtain⟨b,f,i,j,k,l,o,q,c,r,s,t,u⟩:=n.ex
 exact⟨b,f,i,j,k,l,o,g.row a q,⟨c.X.keep a g,c.Y.keep a g,c.A.keep a g⟩,r.keep a g,s.keep a g,t,u⟩
theorem Gr.keep{h a:Hp}(g:Gr h a):dT h a:=g.get
theorem dT.trans{a b c:Hp}(x:dT a b)(n:a.n<=b.n)(y:dT b c):dT a c:=fun i d=>(y i (Nat.lt_of_lt_of_le d n)).trans (x i d)
theorem ItS.keep{hq h0 h:Hp}{D:Nat->Prop}{F:List Nat}(s:ItS h0 D h F)(g:dT hq h0)(n:hq.n<=h0.n)(d: ∀c,c<hq.n->D c):dT hq h:=fun b a=>(s.data b (Nat.lt_of_lt_of_le a n) (d b a)).trans (g b a)
theorem tq{n:Int}(a:0<=n)(b:n<18446744073709551616):ao .u64 n=n:=by
 obtain⟨m,rfl⟩:=Int.eq_ofNat_of_zero_le a
 show ao .u64 (.ofNat m)=_
 unfold ao
 simp only [hf,sgn,pw]
 have:Nat.blt m 18446744073709551616=true:=by rw [Ya];omega
 rw [this];rfl
theorem b_andU{E:Env}{t:TypeId}{x y:Operand}{N:Nat}(h:N<4294967296):bw E .and t x y (.int .u64 (N:Int)) (.int .u64 4294967295)=some (.int .u64 (N:Int)):=by
 have a:Nat.blt N 18446744073709551616=true:=by rw [Ya];omega
 have b:Nat.land N 4294967295=N:=by
  have:=Nat.and_two_pow_sub_one_eq_mod N 32
  rw [show(2 ^32-1:Nat)=4294967295 from rfl,show(2 ^32:Nat)=4294967296 from rfl,Nat.mod_eq_of_lt h]at this
  exact this
 have c:=tq (n:=(N:Int)) (by omega) (by omega)
 have d:jY .and .u64 (.ofNat N) (.ofNat 4294967295)=some (ao .u64 (.ofNat (Nat.land N 4294967295))):=by
  simp only [jY,pw]
  rw [a];rfl
 show(jY .and .u64 (.ofNat N) (.ofNat 4294967295)).map _=_
 rw [d,b]
 show some (Value.int .u64 (ao .u64 (N:Int)))=_
 rw [c]
theorem b_shrU{E:Env}{t:TypeId}{x y:Operand}{kd:IntKind}{N:Nat}(h:N<4294967296):bw E .shr t x y (.int .u64 (N:Int)) (.int kd 32)=some (.int .u64 0):=by
 have e:N/Nat.pow 2 (bif XM 32 (bitsOf .u64)then 32 else bitsOf .u64)=0:=by
  show N/4294967296=0
  exact Nat.div_eq_of_lt h
 show(qT .shr .u64 (.ofNat N) (.ofNat 32)).map _=_
 show some (Value.int .u64 (.ofNat (N/Nat.pow 2 (bif XM 32 (bitsOf .u64)then 32 else bitsOf .u64))))=_
 rw [e];rfl
end Go.Ab

end
section
namespace Go.Ab
theorem ya{E:Env}{t e:TypeId}{b n N:Nat}{kd:IntKind}(c:E.und t=some (.slice e))(d:E.sz e=some 1)(f:n<N):fi E t (.slice (some ⟨b,0,none⟩) N N) (some (.int kd (n:Int))) none none=some (.slice (some ⟨b,n,none⟩) (N-n) (N-n)):=by
 have a: ∀n:Nat,ig (n:Int)=some n:=fun n=>rfl
 have g:XB N n=false:=by
  cases h:XB N n with
  |false=>rfl
  |true=>have:=X8 h;omega
 simp only [fi,c,eR,eC,a,Xh (Nat.le_of_lt f),cond_true,d,XK,cond_false,g,eW,Xu,Xl]
theorem uS{E:Env}{t e:TypeId}{b n N k:Nat}{kd:IntKind}(c:E.und t=some (.slice e))(d:E.sz e=some k)(f:n<=N):fi E t (.slice (some ⟨b,0,none⟩) N N) none (some (.int kd (n:Int))) none=some (.slice (some ⟨b,0,none⟩) n N):=by
 have a: ∀n:Nat,ig (n:Int)=some n:=fun n=>rfl
 simp only [fi,c,eR,eC,a,Xh f,cond_true,d,XK,cond_false,eW,Xn,XY,Yd]
 cases XB N 0<;>rfl
section
variable{M:Nat->Prop}{h0 h:Hp}{L:List (Nat×Ob)}{G:List GL}{E:Env}{t e:TypeId}
theorem St.copyO(S:St M h0 h L G){i b o len cap f o2 m n:Nat}{p c:Option Nat}{cs l:List Value}(g:L[i]? =some (b,.row cs 1))(q:E.und t=some (.slice e))(r:E.sz e=some 1)(v:0<dU m len)(j:h.load f o2 (dU m len*1)=some l)(d:o+l.length<=cs.length)(hf:l.all jE=true){ts:List TypeId}:
 ∃k w,copyV E h (t::ts) (.slice (some ⟨b,o,p⟩) len cap) (.slice (some ⟨f,o2,c⟩) m n)=some (k,w)/\w=.int .i64 (dU m len:Nat)/\St M h0 k (L.set i (b,.row (lay cs o l) 1)) G:=by
 obtain⟨y,s,u⟩:=(S.row (Xb g)).store S.ok ono (o:=o) (vs:=l) d hf
 have a:=load_len j
 refine⟨h.put b y,_,?_,rfl,S.put g u⟩
 simp only [copyV,q,r,j]
 cases l with
 |nil=>simp at a;omega
 |cons x z=>simp only [s];rfl
end
theorem jy{a b:Nat}(h:a<=b):dU a b=a:=by unfold dU;rw [Xh h];rfl
theorem rI{a b:Nat}(h:b<=a):dU a b=b:=by
 unfold dU
 cases c:XM a b with
 |false=>rfl
 |true=>have:=lbt c;show a=b;omega
theorem rF{X Z:Value}{n c k:Nat}(e:c<=k):lay (XC n X++XC k Z) n (XC c X)=XC (n+c) X++XC (k-c) Z:=by
 refine Xo fun j=>?_
 rw [js (by simp;omega),XN,XO,XO,XN,XN,Xr,Xr,Xr,Xr,Xr]
 by_cases a:j<n
 . rw [if_neg (by omega),if_pos a,if_pos a,if_pos (by omega),if_pos (by omega)]
 . by_cases b:j<n+c
   . rw [if_pos (by omega),if_pos (by omega),if_pos b,if_pos b]
   . rw [if_neg (by omega),if_neg a,if_neg b]
     by_cases d:j-n<k
     . rw [if_pos d,if_pos (by omega)]
     . rw [if_neg d,if_neg (by omega)]
theorem mI(z:Value): ∀n,aT [z] n=XC n z
 |0=>rfl
 |n+1=>by simp [aT,mI z n,List.replicate_succ]
def ClF(O:List Nat)(f:Int->Option Value):Prop:= ∀u:Nat,f (u:Int)=if u∈O then some (.int .i64 1)else none
end Go.Ab

end
section
namespace Go.Ab
section
variable{M:Nat->Prop}{h0 h h':Hp}{L L':List (Nat×Ob)}{G G':List GL}{Fh:List Nat}
theorem St.baseF(S:St M h0 h L G)(Fh:List Nat):St (fun c=>c∈keys L G\/c∈Fh) h h L G:=
 ⟨Mo.refl S.ok,fun p a=>⟨.inr (.inl (iV a)),(S.own p a).2⟩,fun p a=>⟨(S.gown p a).1,fun b d=>.inr (.inl (gm a d))⟩,S.apart⟩
theorem St.rebaseF(S:St M h0 h L G)(e: ∀c∈Fh,h0.n<=c\/M c)(T:St (fun c=>c∈keys L G\/c∈Fh) h h' L' G'):St M h0 h' L' G':=by
 have f: ∀b,h.n<=b\/(b∈keys L G\/b∈Fh)->h0.n<=b\/M b:=fun b a=>a.elim (fun a=>.inl (Xw S.fr.n a)) (fun a=>a.elim S.key_own (e b))
 exact⟨S.fr.trans T.fr fun b a=>(a.elim S.key_own (e b)).symm,fun p d=>⟨f _ (T.own p d).1,(T.own p d).2⟩,fun p d=>⟨(T.gown p d).1,fun b a=>f b ((T.gown p d).2 b a)⟩,T.apart⟩
theorem St.callF(S:St M h0 h L G){i b:Nat}{o o':Ob}(k:L[i]? =some (b,o))(f:Mo (fun c=>c∈Fh\/c=b) h h')(m: ∀c∈Fh,(M c\/h0.n<=c)/\c∉keys L G)(q:Has h' b o'):St M h0 h' (L.set i (b,o')) G:=by
 have n:=S.own _ (Xb k)
 have l:(keys L G)[i]? =some b:=n9 k
 refine⟨S.fr.trans f (fun c d=>by rcases d with d|rfl;exact(m c d).1;exact n.1.symm),fun p a=>?_,fun p a=>⟨(S.gown p a).1.of_get fun c d=>?_,(S.gown p a).2⟩,?_⟩
 . rcases lg a with rfl|⟨j,r,a⟩
   . exact⟨n.1,q⟩
   . have g:=S.own p (Xb a)
     refine⟨g.1,g.2.of_get (f.get _ (g.2.lt S.ok) fun e=>?_)⟩
     rcases e with e|e
     . exact(m _ e).2 (iV (Xb a))
     . apply r
       have s:(keys L G)[j]? =some b:=by rw [n9 a];rw [e]
       exact oK S.apart s l
 . refine f.get c ((S.gown p a).1.lt S.ok d) fun e=>?_
   rcases e with e|e
   . exact(m _ e).2 (gm a d)
   . subst e
     have g:=S.apart
     unfold keys at g
     rw [Xd]at g
     exact g.2.2 c (List.mem_map.2 ⟨_,Xb k,rfl⟩) c (List.mem_filterMap.2 ⟨p,a,d⟩) rfl
 . have:keys (L.set i (b,o')) G=keys L G:=by
    unfold keys
    congr 1
    rw [List.map_set]
    refine Xo fun j=>?_
    rw [Xp]
    split
    . rename_i e;subst e
      have:=(List.getElem?_eq_some_iff.1 k).1
      rw [if_pos (by simpa using this),Xq,k];rfl
    . rfl
   rw [this];exact S.apart
theorem St.stepF(S:St M h0 h L G)(f:Mo (· ∈Fh) h h')(b: ∀c∈Fh,(M c\/h0.n<=c)/\c∉keys L G):St M h0 h' L G:=
 S.step f (fun c a=>(b c a).1) (fun c a d=>(b c d).2 a)
theorem St.permL(S:St M h0 h L G)(p:L'.Perm L):St M h0 h L' G:=
 ⟨S.fr,fun x a=>S.own x (p.mem_iff.1 a),S.gown,by
  have:(keys L' G).Perm (keys L G):=(p.map Xg).append_right _
  exact this.nodup_iff.2 S.apart⟩
end
theorem St.mono{M M':Nat->Prop}{h0 h:Hp}{L:List (Nat×Ob)}{G:List GL}(S:St M h0 h L G)(c: ∀b,M b->M' b):St M' h0 h L G:=
 ⟨S.fr.mono c,fun p a=>⟨(S.own p a).1.imp (fun h=>h) (c _),(S.own p a).2⟩,fun p a=>⟨(S.gown p a).1,fun b d=>((S.gown p a).2 b d).imp (fun h=>h) (c _)⟩,S.apart⟩
theorem Dj.exm{B:List Arc}{s N:Nat}{O:List Nat}{D:Nat->Nat}{K:Nat->Option Int}{b ex':Arc->Prop}(d:Dj B s N O D K b)(h: ∀a∈B,b a->ex' a):Dj B s N O D K ex':=
 ⟨d.i1,d.i2,d.i2f,d.i3,fun a c e f=>d.i4 a c e (fun g=>f (h a c g)),d.i5,d.nd,d.lt⟩
def noteSl:Value->Option Tch
 | .map (some r)=>some (.blk r)
 | .slice (some a) _ _=>some (.blk a.block)
 |_=>none
theorem xp{ρ:Operand->Value}{b:Bool}{x y:Operand}{ts:Array TypeId}{h a:Hp}:cH ρ b (.call ⟨.builtin .append,#[x,y],ts⟩) h a=noteSl (ρ x):=by
 simp only [cH,dK,jO,eS,touch,cond_false]
 cases ρ x<;>first|rfl|(rename_i x;cases x<;>rfl)|(rename_i x _ _;cases x<;>rfl)
theorem pair_x{x:Option Tch}:jm x none=true:=by
 cases x with
 |none=>rfl
 |some b=>cases b<;>rfl
theorem entry_nl{i:Nat}:cq i []=none:=rfl
end Go.Ab

end
section
namespace Go.Ab
def SlW(h:Hp)(kd:IntKind)(v:Value)(xs:List Int):Prop:=(v=.slice none 0 0/\xs=[])\/ ∃b o c,v=.slice (some ⟨b,o,none⟩) xs.length c/\xs.length<=c/\h.load b o (xs.length*1)=some (xs.flatMap (encI kd))
theorem SlW.sl{h:Hp}{kd:IntKind}{v:Value}{xs:List Int}(s:SlW h kd v xs):au h 1 (encI kd) v xs:=s.imp (fun h=>h) (fun⟨b,o,c,a,d,e⟩=>⟨b,o,none,c,a,d,e⟩)
theorem SlW.low{E:Env}{h:Hp}{kd kd':IntKind}{t e:TypeId}{v:Value}{xs:List Int}(g:E.und t=some (.slice e))(j:E.sz e=some 1)(s:SlW h kd v xs){n:Nat}(a:n<=xs.length):
 ∃v',fi E t v none (some (.int kd' (n:Int))) none=some v'/\au h 1 (encI kd) v' (xs.take n)/\ ∀c,ar v' c->ar v c:=by
 have f: ∀n:Nat,ig (n:Int)=some n:=fun n=>rfl
 rcases s with⟨rfl,rfl⟩|⟨b,o,c,rfl,k,q⟩
 . have:n=0:=by simpa using a
   subst this
   refine⟨.slice none 0 0,?_,.inl ⟨rfl,rfl⟩,fun c d=>d⟩
   simp only [fi,g,eR,eC,f,j]
   rfl
 . refine⟨.slice (some ⟨b,o,none⟩) n c,?_,.inr ⟨b,o,none,c,?_,?_,?_⟩,fun c d=>d⟩
   . simp only [fi,g,eR,eC,f,Xh (Xw a k),cond_true,j,XK,cond_false,Yd,eW,Xn,XY]
     by_cases d:c=0
     . subst d;rfl
     . rw [show XB c 0=false by cases c with|zero=>exact absurd rfl d|succ c=>rfl];rfl
   . rw [Xm,X5 a]
   . rw [Xm,X5 a];exact Xw a k
   . rw [Xm,X5 a]
     have:=kW q (i:=0) (m:=n*1) (by omega)
     rw [XY,XR]at this
     rw [this]
     congr 1
     refine Xo fun i=>?_
     have p: ∀l:List Int,l.flatMap (encI kd)=l.map fun x=>.int kd x:=fun l=>by
      rw [X9,List.map_eq_flatMap,X9];rfl
     rw [p,p,Xu,List.map_take]
end Go.Ab

end
section
namespace Go.Ab
open Go.Proofs
set_option maxRecDepth 10000
def Z0:=aj t31<|r31
def Z1:=aj t151<|r151
def Z2:=aj t87<|r87
def Z3:=aj t7<|r7
def Z4:=aj t8<|r8
def Z5:=aj t121<|r121
def Z6:=aj t197<|r197
def Z7:=aj t305<|r305
def Z8:=aj t28<|r28
def Z9:=aj t307<|r307
def Z10:=aj t268<|r268
def Z11:=aj t69<|r69
def Z12:=aj t80<|r80
def Z13:=aj t132<|r132
def Z14:=aj t13<|r13
def Z15:=aj t310<|r310
def Z16:=aj t349<|r349
def Z17:=aj t339<|r339
def Z18:=aj t187<|r187
def Z19:=aj t220<|r220
def Z20:=aj t14<|r14
def Z21:=aj t278<|r278
def Z22:=aj t19<|r19
def Z23:=aj t109<|r109
def Tryz.FX:=aj t1<|aj t2<|aj t3<|aj t4<|aj t45<|aj Z19<|aj t286<|t287
theorem values{h0:Hp}(d:h0.t.Sized h0.n){v:Value}(e:Fl v):Ret zM 201 [v] h0 fun r c=>Gr h0 c/\ ∃b,r=.func (.func 227) #[] #[ptrTo b]/\h0.n<=b/\c.load b 0 1=some [v]:=by
 have S:=Si d
 refine ab (n:=4) (rs:=[.tmp 2]) rfl Tryz.e201 rfl rfl rfl (lbt rfl) ?_
 simp only [BS,Nat.reduceLT]
 refine ae (bF (by assumption)) S ?_;clear S;intro h b S a
 simp only [BS,LB,ac,Nat.reduceLT,Nat.reduceEqDiff]
 exact⟨S.gr,b,rfl,a,S.ld m0 rfl⟩
theorem rS{h0:Hp}(d:h0.t.Sized h0.n){v:Value}{b:Nat}{ps:List Pl}(y:h0.load b 0 1=some [v])(q:au h0 6 jB v ps)(r:ps.length<1000):
 Iter zM 227 [] [ptrTo b] h0 (fun c=>c=b\/ar v c) (ps.map fun p=>[.agg ⟨jB p⟩]):=by
 refine rQ fun z J Z Y h F s k=>?_
 refine enter (n:=16) (rs:=[]) rfl Tryz.e227 rfl rfl rfl (lbt rfl) ?_
 have l:=s.load d y (.inl rfl)
 have f:=s.sl d q (fun b h=>.inr h)
 simp only [BS,LB,Nat.reduceLT,FX,l,f.lenq]
 refine aN (fun(i:Nat) g h=>i<=ps.length/\ ∃F,ItS h0 (fun c=>c=b\/ar v c) h F/\J i h F/\g 0=.func (.yield z) #[] #[]/\g 5=v/\g 6=.int .i64 ps.length/\g 7=.int .i64 i) (fun i=>ps.length-i) ?_ 0 _ _ ?_
 . intro i A g h ⟨hi,F,s,k,r0,r5,r6,r7⟩
   by_cases hlt:i<ps.length
   . have f:=s.sl d q (fun b h=>.inr h)
     obtain⟨c,o,j,m⟩:=f.ix (kd:=.i64) encP_len hlt
     have S:=Si s.ok
     have w:ao .i64 ((i:Int)+1)=((i+1:Nat):Int):=by rw [wrap64]<;>omega
     simp only [BS,LB,Nat.reduceLT,Nat.reduceEqDiff,FX,r5,r6,r7,aB,hlt,j,m]
     refine ae ax S ?_;clear S;intro h B S t
     simp only [BS,LB,Nat.reduceLT,Nat.reduceEqDiff,jB]
     refine az (S.store (i:=0) rfl ?_ ?_ rfl rfl ?_ ono) ?_
     . exact(by exact Tryz.t220.2.1)
     . exact(by intro x e;cases e)
     . exact lbt rfl
     clear S;rintro h ⟨S,C⟩;clear C;simp only [LC,ah,lay,XD,XE,Nat.reduceAdd]at S
     simp only [BS,LB,Nat.reduceLT,Nat.reduceEqDiff,FX,r0,S.lds (b:=B) (o:=0) (n:=6) m0 (lbt rfl)]
     refine cy Y (s.gr S.gr) (Y.gr _ _ _ _ k S.gr) (i:=i) (by simp [hlt,jB]) ?_ ?_ ?_
     . intro u D a E _ _
       simp only [BS,LB,Nat.reduceLT,Nat.reduceEqDiff,r7,w]
       exact A (i+1) _ _ (by omega) ⟨by omega,D,E,a,by simp [aa,r0],by simp [aa,r5],by simp [aa,r6],by simp [aa]⟩
     . intro u a _
       simp only [BS,LB,Nat.reduceLT,Nat.reduceEqDiff]
       exact fk rfl ⟨rfl,.inr (.inl ⟨_,rfl,a⟩)⟩
     . intro v u a
       simp only [BS]
       exact jJ (cB ⟨rfl,.inr (.inr ⟨_,rfl,a⟩)⟩)
   . simp only [BS,LB,Nat.reduceLT,r6,r7,aB,hlt]
     have:i=ps.length:=by omega
     subst this
     exact bO (cB ⟨rfl,_,rfl,rfl,.inl ⟨_,F,rfl,by simpa using k⟩⟩)
 . exact⟨by omega,F,s,k,by simp [aa,bQ],by simp [aa],by simp [aa],by simp [aa]⟩
def Tryz.F0S:=aj t1<|aj t2<|aj t3<|aj t4<|aj t5<|aj t45<|aj t214<|aj Z19<|t286
def Tryz.F0T:=aj t1<|aj t2<|aj t3<|aj t4<|aj t5<|aj t24<|aj t29<|aj Z0<|aj t45<|aj Z2<|aj t214<|aj Z19<|t286
def Tryz.Fz:=aj t1<|aj t2<|aj t3<|aj t4<|aj t5<|aj t6<|aj Z3<|aj Z4<|aj t24<|aj t29<|aj Z0<|aj t45<|aj Z2<|aj Z19<|t287
def mJ(f g:Nat)(v:Value)(h:Hp):Prop:= ∃d a b,∃(e:List Pl) (D:Nat->Prop),v=.func (.func d) a b/\Iter zM d a.toList b.toList h D (e.map fun p=>[.agg ⟨jB p⟩])/\(∀p∈e,p.lo<=p.n/\p.n<p.hi)/\ ∀c,D c->c<f\/g<=c
theorem one_ok{h0:Hp}(l:h0.t.Sized h0.n){c n a d:Int}(m:a<=n)(r:n<d):
 Ret zM 140 [.int .i64 c,.int .i64 n,.int .i64 a,.int .i64 d] h0 fun v j=>Gr h0 j/\mJ 0 h0.n v j:=by
 have S:=Si l
 refine ab (n:=16) (rs:=[.tmp 8]) rfl Tryz.e140 rfl rfl rfl (lbt rfl) ?_
 simp only [BS,LB,Nat.reduceLT,Nat.reduceEqDiff,Nat.reduceAdd,F0S]
 refine ae (bH (by exact Tryz.t286.1) (by exact Tryz.e220E) (by decide) (by rfl)) S ?_;clear S;intro h b S f;simp only [LC,aT,bz,ah,Nat.reduceMul,Nat.reduceAdd,Xn,Xl,Xu,XG]at S
 simp only [BS,LB,Nat.reduceLT,Nat.reduceEqDiff]
 have q:=S.fr.n
 refine step_ret (values S.ok a9) ?_;intro v h ⟨g,b2,e,n2,l2⟩;replace S:=S.call g;clear g
 subst e
 simp only [BS,LB,ac,Nat.reduceLT,Nat.reduceEqDiff]
 have s:au h 6 jB (.slice (some ⟨b,0,none⟩) 1 1) [⟨0,0,c,n,a,d⟩]:=.inr ⟨b,0,none,1,rfl,XA _,S.lds (b:=b) (o:=0) (n:=1*6) m0 (lbt rfl)⟩
 exact⟨S.gr,_,#[],#[ptrTo b2],_,_,rfl,rS S.ok l2 s (by simp),by intro p k;simp at k;subst k;exact⟨m,r⟩,fun c i=>by rcases i with rfl|i;exact .inr (by omega);cases i;exact .inr f⟩
theorem shapes_ok{h0:Hp}(u:h0.t.Sized h0.n){a:Gra}(d:Good a){k l m:Value}(r:c8 h0 k l m a):
 Ret zM 142 [jh a k l m] h0 fun v s=>Gr h0 s/\mJ 0 h0.n v s:=by
 have S:=Si u
 have A:=d.n1
 have B:=d.n2
 have w:ao .i64 ((a.nodes:Int)+1)=((a.nodes+1:Nat):Int):=by rw [wrap64]<;>omega
 refine ab (n:=22) (rs:=[.tmp 2]) rfl Tryz.e142 rfl rfl rfl (lbt rfl) ?_
 simp only [BS,Nat.reduceLT,jh]
 refine ae (bg (by intro x e;cases e)) S ?_;clear S;intro h b S y;simp only [ah]at S
 simp only [BS,LB,Nat.reduceLT,Nat.reduceEqDiff,Nat.reduceAdd,F0T,r.X.lenq,r.Y.lenq,w,S.ld (b:=b) (o:=0) m0 rfl,S.ld (b:=b) (o:=1) m0 rfl,S.ld (b:=b) (o:=2) m0 rfl]
 refine ae (bH (by exact Tryz.t286.1) (by exact Tryz.e220E) (by decide) (by rfl)) S ?_;clear S;intro h i S f;simp only [LC,aT,bz,ah,Nat.reduceMul,Nat.reduceAdd,Xn,Xl,Xu,XG]at S
 simp only [BS,LB,Nat.reduceLT,Nat.reduceEqDiff]
 have q:=S.fr.n
 refine step_ret (values S.ok a9) ?_;intro v h ⟨g,b2,e,n2',l2⟩;replace S:=S.call g;clear g
 subst e
 simp only [BS,LB,ac,Nat.reduceLT,Nat.reduceEqDiff]
 have z:au h 6 jB (.slice (some ⟨i,0,none⟩) 2 2) [⟨0,0,6,a.X.length,a.nodes,(a.nodes+1:Nat)⟩,⟨0,1,6,a.Y.length,a.nodes,(a.nodes+1:Nat)⟩]:=.inr ⟨i,0,none,2,rfl,XA _,S.lds (b:=i) (o:=0) (n:=2*6) m0 (lbt rfl)⟩
 refine⟨S.gr,_,#[],#[ptrTo b2],_,_,rfl,rS S.ok l2 z (by simp),?_,fun c j=>by rcases j with rfl|j;exact .inr (by omega);cases j;exact .inr f⟩
 intro p t
 have:=d.lX
 have:=d.lY
 simp at t
 rcases t with rfl|rfl<;>(simp only [];omega)
theorem nodes_ok{h0:Hp}(j:h0.t.Sized h0.n){c d f g:Value}:Ret zM 144 [.agg ⟨[g,c,d,f]⟩] h0 fun v i=>Gr h0 i/\ ∃b,v=.func (.func 202) #[] #[ptrTo b]/\h0.n<=b/\Row i b [g,c,d,f] 1:=by
 have S:=Si j
 refine ab (n:=4) (rs:=[.tmp 2]) rfl Tryz.e144 rfl rfl rfl (lbt rfl) ?_
 simp only [BS,Nat.reduceLT]
 refine ae (bg (by intro x e;cases e)) S ?_;clear S;intro h b S a;simp only [ah]at S
 simp only [BS,LB,ac,Nat.reduceLT,Nat.reduceEqDiff]
 exact⟨S.gr,b,rfl,a,S.row m0⟩
theorem arcs_ok{h0:Hp}(j:h0.t.Sized h0.n){c d f g:Value}:Ret zM 147 [.agg ⟨[g,c,d,f]⟩] h0 fun v i=>Gr h0 i/\ ∃b,v=.func (.func 203) #[] #[ptrTo b]/\h0.n<=b/\Row i b [g,c,d,f] 1:=by
 have S:=Si j
 refine ab (n:=4) (rs:=[.tmp 2]) rfl Tryz.e147 rfl rfl rfl (lbt rfl) ?_
 simp only [BS,Nat.reduceLT]
 refine ae (bg (by intro x e;cases e)) S ?_;clear S;intro h b S a;simp only [ah]at S
 simp only [BS,LB,ac,Nat.reduceLT,Nat.reduceEqDiff]
 exact⟨S.gr,b,rfl,a,S.row m0⟩
def plN(X Y:List Int):List Pl:=(Xk X.length).flatMap fun(i:Nat)=>[⟨i,0,7,X.getD i 0,-2147483648,2147483648⟩,⟨i,1,7,Y.getD i 0,-2147483648,2147483648⟩]
theorem plN_len(X Y:List Int):(plN X Y).length=2*X.length:=by
 unfold plN
 rw [XI]
 simp [XP]
 omega
theorem plN_at(X Y:List Int){i:Nat}(c:i<X.length):(plN X Y)[2*i]? =some ⟨i,0,7,X.getD i 0,-2147483648,2147483648⟩/\(plN X Y)[2*i+1]? =some ⟨i,1,7,Y.getD i 0,-2147483648,2147483648⟩:=by
 unfold plN
 have b: ∀(n j:Nat) (f:Nat->Pl) (k:Nat->Pl),j<n->((Xk n).flatMap fun i=>[f i,k i])[2*j]? =some (f j)/\((Xk n).flatMap fun i=>[f i,k i])[2*j+1]? =some (k j):=by
  intro n
  induction n with
  |zero=>intro j f k d;omega
  | succ n e=>
    intro j f k d
    have a:((Xk n).flatMap fun i=>[f i,k i]).length=2*n:=by rw [XI];simp [XP];omega
    rw [X2,Yb]
    by_cases h:j<n
    . rw [Xe (by omega),Xe (by omega)];exact e j f k h
    . have:j=n:=by omega
      subst this
      rw [Xc (by omega),Xc (by omega),a]
      simp
 exact b _ _ _ _ c
theorem Ah{h0:Hp}(d:h0.t.Sized h0.n){l m K L:Value}{b:Nat}{X Y:List Int}(t:Row h0 b [L,l,m,K] 1)(G:au h0 1 (encI .i64) l X)(M:au h0 1 (encI .i64) m Y)(hl:X.length=Y.length)(H:X.length<1000):
 Iter zM 202 [] [ptrTo b] h0 (fun c=>c=b\/ar l c\/ar m c) ((plN X Y).map fun p=>[.agg ⟨jB p⟩]):=by
 refine rQ fun N J Z u h F s r=>?_
 refine enter (n:=38) (rs:=[]) rfl Tryz.e202 rfl rfl rfl (lbt rfl) ?_
 have x:=s.load d (t.load1 (o:=1) rfl) (.inl rfl)
 simp only [BS,LB,Nat.reduceLT,Nat.reduceEqDiff,Fz,x,G.lenq]
 refine aN (fun(i:Nat) g h=>i<=X.length/\ ∃F,ItS h0 (fun c=>c=b\/ar l c\/ar m c) h F/\J (2*i) h F/\g 0=.func (.yield N) #[] #[]/\g 1=ptrTo b/\g 8=.int .i64 X.length/\g 9=.int .i64 i) (fun i=>X.length-i) ?_ 0 _ _ ?_
 . intro i O g h ⟨hi,F,s,r,r0,r1,r8,r9⟩
   by_cases hlt:i<X.length
   . have y:=s.sl d G (fun b h=>.inr (.inl h))
     have z:=s.sl d M (fun b h=>.inr (.inr h))
     have x:=s.load d (t.load1 (o:=1) rfl) (.inl rfl)
     have P:=s.load d (t.load1 (o:=2) rfl) (.inl rfl)
     obtain⟨c,o,j,A⟩:=y.ix (kd:=.i64) (bG _) hlt
     obtain⟨c2,o2,f,k⟩:=z.ix (kd:=.i64) (bG _) (i:=i) (by omega)
     have S:=Si s.ok
     have w:ao .i64 ((i:Int)+1)=((i+1:Nat):Int):=by rw [wrap64]<;>omega
     simp only [BS,LB,Nat.reduceLT,Nat.reduceEqDiff,r8,r9,aB,hlt]
     refine av (aC rfl) (q:=1024) (ps:=[]) (by kernel_rfl) ?_
     simp only [BS,LB,cls,Nat.reduceLT,Nat.reduceEqDiff,Nat.reduceAdd,Nat.reducePow,Nat.reduceDiv,Nat.reduceMod,Nat.reduceLeDiff,Fz,r1,x,P,j,f,A,k,encI]
     refine eo (bH (by exact Tryz.t24.1) (by exact Tryz.e2E) (by decide) (by rfl)) S ?_;clear S;intro h e S B C;simp only [LC,aT,bz,ah,Nat.reduceMul,Nat.reduceAdd,Xn,Xl,Xu,XG]at S
     simp only [BS,LB,cls,Nat.reduceLT,Nat.reduceEqDiff,Nat.reduceAdd,Nat.reducePow,Nat.reduceDiv,Nat.reduceMod,Nat.reduceLeDiff,Xj,Fz]
     have Q:ao .i64 1=1:=rfl
     have T:ao .i64 2=2:=rfl
     have I:=plN_at X Y hlt
     rw [bW]
     simp only [BS,LB,Nat.reduceLT,Nat.reduceEqDiff,Nat.reduceAdd,Int.reduceToNat,Int.reduceLE,Int.reduceLT,Xj,Fz,r0,S.ld (b:=e) (o:=0) m0 rfl,S.ld (b:=e) (o:=1) m0 rfl]
     refine cy u (s.gr S.gr) (u.gr _ _ _ _ r S.gr) (i:=2*i) (by rw [Xq,I.1];simp [jB,zO,hlt]) ?_ ?_ ?_
     . intro U F2 a V D _
       have W:e∉F:=fun hm=>by have:=s.lt _ hm;omega
       have R:Row U e _ 1:=(S.row m0).of_get (D.get _ ((S.row m0).lt S.ok) W)
       have R1:=R.load1 (o:=1) rfl
       have ad:True:=trivial
       simp only [BS,LB,Nat.reduceLT,Nat.reduceEqDiff,Int.reduceAdd,Q]
       rw [bW]
       simp only [BS,LB,Nat.reduceLT,Nat.reduceEqDiff,Nat.reduceAdd,Int.reduceToNat,Int.reduceLE,Int.reduceLT,Xj,Fz,r0,R1]
       refine cy u V a (i:=2*i+1) (by rw [Xq,I.2];simp [jB,zO,show i<Y.length by omega]) ?_ ?_ ?_
       . intro h3 F3 a s3 _ _
         simp only [BS,LB,Nat.reduceLT,Nat.reduceEqDiff,Int.reduceAdd,T]
         rw [bW]
         simp only [BS,LB,Nat.reduceLT,Nat.reduceEqDiff,Int.reduceLT,r9,w]
         exact O (i+1) _ _ (by omega) ⟨by omega,F3,s3,a,by simp [aa,r0],by simp [aa,r1],by simp [aa,r8],by simp [aa]⟩
       . intro E a _
         simp only [BS,LB,Nat.reduceLT,Nat.reduceEqDiff]
         exact fk rfl ⟨rfl,.inr (.inl ⟨_,rfl,a⟩)⟩
       . intro v E a
         simp only [BS]
         exact jJ (cB ⟨rfl,.inr (.inr ⟨_,rfl,a⟩)⟩)
     . intro E a _
       simp only [BS,LB,Nat.reduceLT,Nat.reduceEqDiff]
       exact fk rfl ⟨rfl,.inr (.inl ⟨_,rfl,a⟩)⟩
     . intro v E a
       simp only [BS]
       exact jJ (cB ⟨rfl,.inr (.inr ⟨_,rfl,a⟩)⟩)
   . simp only [BS,LB,Nat.reduceLT,r8,r9,aB,hlt]
     have:i=X.length:=by omega
     subst this
     exact bO (cB ⟨rfl,_,rfl,rfl,.inl ⟨_,F,rfl,by simpa [plN_len]using r⟩⟩)
 . exact⟨by omega,F,s,r,by simp [aa,bQ],by simp [aa,bQ,ag],by simp [aa],by simp [aa]⟩
def Tryz.Fi:=aj t1<|aj t2<|aj t3<|aj t4<|aj t5<|aj t6<|aj Z3<|aj Z4<|aj t9<|aj t24<|aj t29<|aj Z0<|aj t45<|aj Z2<|aj Z19<|aj t286<|t287
def plA(n:Nat)(A:List Arc):List Pl:=(Xk A.length).flatMap fun(i:Nat)=>[⟨i,0,9,(A.getD i default).s,0,n⟩,⟨i,1,9,(A.getD i default).t,0,n⟩,⟨i,2,10,(A.getD i default).w,0,2147483648⟩]
theorem flat3_at{α:Type}(f k l:Nat->α): ∀(n j:Nat),j<n->((Xk n).flatMap fun i=>[f i,k i,l i])[3*j]? =some (f j)/\((Xk n).flatMap fun i=>[f i,k i,l i])[3*j+1]? =some (k j)/\((Xk n).flatMap fun i=>[f i,k i,l i])[3*j+2]? =some (l j):=by
 intro n
 induction n with
 |zero=>intro j b;omega
 | succ n c=>
   intro j b
   have a:((Xk n).flatMap fun i=>[f i,k i,l i]).length=3*n:=by rw [XI];simp [XP];omega
   rw [X2,Yb]
   by_cases h:j<n
   . rw [Xe (by omega),Xe (by omega),Xe (by omega)];exact c j h
   . have:j=n:=by omega
     subst this
     rw [Xc (by omega),Xc (by omega),Xc (by omega),a]
     simp
theorem plA_len(n:Nat)(A:List Arc):(plA n A).length=3*A.length:=by
 unfold plA
 rw [XI]
 simp [XP]
 omega
theorem arcs_iter {h0:Hp} (d:h0.t.Sized h0.n) {W X m:Value} {b n:Nat} {A:List Arc} (I:Row h0 b [.int .i64 n,W,X,m] 1) (K:au h0 3 cu m A) (L:A.length<1000):
 Iter zM 203 [] [ptrTo b] h0 (fun c=>c=b\/ar m c) ((plA n A).map fun p=>[.agg ⟨jB p⟩]):=by
 refine rQ fun Y J Z j h F s t=>?_
 refine enter (n:=44) (rs:=[]) rfl Tryz.e203 rfl rfl rfl (lbt rfl) ?_
 have l0:=s.load d (I.load1 (o:=0) rfl) (.inl rfl)
 have l3:=s.load d (I.load1 (o:=3) rfl) (.inl rfl)
 simp only [BS,LB,Nat.reduceLT,Nat.reduceEqDiff,Fi,l0,l3,K.lenq]
 refine aN (fun(i:Nat) k h=>i<=A.length/\ ∃F,ItS h0 (fun c=>c=b\/ar m c) h F/\J (3*i) h F/\k 0=.func (.yield Y) #[] #[]/\k 3=.int .i64 n/\k 11=m/\k 12=.int .i64 A.length/\k 13=.int .i64 i) (fun i=>A.length-i) ?_ 0 _ _ ?_
 . intro i ih k h ⟨hi,F,s,t,r0,r3,r11,r12,r13⟩
   by_cases hlt:i<A.length
   . have u:=s.sl d K (fun b h=>.inr h)
     obtain⟨c,o,q,y⟩:=u.ix (kd:=.i64) hZ hlt
     have S:=Si s.ok
     have w:ao .i64 ((i:Int)+1)=((i+1:Nat):Int):=by rw [wrap64]<;>omega
     have w1:ao .i64 1=1:=rfl
     have w2:ao .i64 2=2:=rfl
     have w3:ao .i64 3=3:=rfl
     have z:=flat3_at (fun(i:Nat)=>(⟨i,0,9,(A.getD i default).s,0,n⟩:Pl)) (fun(i:Nat)=>⟨i,1,9,(A.getD i default).t,0,n⟩) (fun(i:Nat)=>⟨i,2,10,(A.getD i default).w,0,2147483648⟩) A.length i hlt
     have B:A.getD i default=A[i]:=by simp [zO,hlt]
     simp only [BS,LB,Nat.reduceLT,Nat.reduceEqDiff,Fi,r11,r12,r13,aB,hlt,q,y]
     refine ae ax S ?_;clear S;intro h C S M
     simp only [BS,LB,Nat.reduceLT,Nat.reduceEqDiff,cu]
     refine az (S.store (i:=0) rfl ?_ ?_ rfl rfl ?_ ono) ?_
     . exact(by exact Tryz.t87.2.1)
     . exact(by intro x e;cases e)
     . exact lbt rfl
     clear S;rintro h ⟨S,f⟩;clear f;simp only [LC,ah,lay,XD,XE,Nat.reduceAdd]at S
     simp only [BS,LB,Nat.reduceLT,Nat.reduceEqDiff,Nat.reduceAdd,Fi,r3,S.ld (b:=C) (o:=0) m0 rfl,S.ld (b:=C) (o:=1) m0 rfl,S.ld (b:=C) (o:=2) m0 rfl]
     refine ae (bH (by exact Tryz.t286.1) (by exact Tryz.e220E) (by decide) (by rfl)) S ?_;clear S;intro h g S N;simp only [LC,aT,bz,ah,Nat.reduceMul,Nat.reduceAdd,Xn,Xl,Xu,XG]at S
     simp only [BS,LB,Nat.reduceLT,Nat.reduceEqDiff,Xj,Fi]
     have O:g∉F:=fun l=>by have:=s.lt _ l;omega
     have R:Row h g _ 1:=S.row m0
     have ad:=R.lt S.ok
     rw [bW]
     simp only [BS,LB,Nat.reduceLT,Nat.reduceEqDiff,Int.reduceToNat,Int.reduceLE,Int.reduceLT,Xj,Fi,S.lds (b:=g) (o:=0) (n:=6) m0 (lbt rfl)]
     refine ae ax S ?_;clear S;intro h b7 S P
     simp only [BS,LB,Nat.reduceLT,Nat.reduceEqDiff,XR,XH,XQ]
     refine az (S.store (i:=0) rfl ?_ ?_ rfl rfl ?_ ono) ?_
     . exact(by exact Tryz.t220.2.1)
     . exact(by intro x e;cases e)
     . exact lbt rfl
     clear S;rintro h ⟨S,f⟩;clear f;simp only [LC,ah,lay,XD,XE,Nat.reduceAdd]at S
     simp only [BS,LB,Nat.reduceLT,Nat.reduceEqDiff,Fi,r0,S.lds (b:=b7) (o:=0) (n:=6) m0 (lbt rfl)]
     have R:Row h g _ 1:=S.row m1
     refine cy j (s.gr S.gr) (j.gr _ _ _ _ t S.gr) (i:=3*i) (by rw [Xq,show(plA n A)[3*i]? =_ from z.1,B];simp [jB]) ?_ ?_ ?_
     . intro h2 F2 a Q D E
       have R0:=R
       replace R:Row h2 g _ 1:=R.of_get (D.get _ (R.lt S.ok) O)
       have G:g∉F2:=fun l=>by
        rcases E _ l with l|l
        . exact O l
        . have:=R0.lt S.ok;omega
       have S:=Si Q.ok
       simp only [BS,LB,Nat.reduceLT,Nat.reduceEqDiff,Int.reduceAdd,w1]
       rw [bW]
       simp only [BS,LB,Nat.reduceLT,Nat.reduceEqDiff,Int.reduceToNat,Int.reduceLE,Int.reduceLT,Xj,Nat.reduceMul,Fi,R.load (o:=6) (n:=6) (lbt rfl)]
       refine ae ax S ?_;clear S;intro h b8 S T
       simp only [BS,LB,Nat.reduceLT,Nat.reduceEqDiff,Yc,XR,XH,XQ]
       refine az (S.store (i:=0) rfl ?_ ?_ rfl rfl ?_ ono) ?_
       . exact(by exact Tryz.t220.2.1)
       . exact(by intro x e;cases e)
       . exact lbt rfl
       clear S;rintro h ⟨S,f⟩;clear f;simp only [LC,ah,lay,XD,XE,Nat.reduceAdd]at S
       simp only [BS,LB,Nat.reduceLT,Nat.reduceEqDiff,Fi,r0,S.lds (b:=b8) (o:=0) (n:=6) m0 (lbt rfl)]
       replace R:=R.gr S.gr
       refine cy j (Q.gr S.gr) (j.gr _ _ _ _ a S.gr) (i:=3*i+1) (by rw [Xq,show(plA n A)[3*i+1]? =_ from z.2.1,B];simp [jB]) ?_ ?_ ?_
       . intro h3 F3 a U H af
         replace R:Row h3 g _ 1:=R.of_get (H.get _ (R.lt S.ok) G)
         have S:=Si U.ok
         simp only [BS,LB,Nat.reduceLT,Nat.reduceEqDiff,Int.reduceAdd,w2]
         rw [bW]
         simp only [BS,LB,Nat.reduceLT,Nat.reduceEqDiff,Int.reduceToNat,Int.reduceLE,Int.reduceLT,Xj,Nat.reduceMul,Fi,R.load (o:=12) (n:=6) (lbt rfl)]
         refine ae ax S ?_;clear S;intro h b9 S V
         simp only [BS,LB,Nat.reduceLT,Nat.reduceEqDiff,Yc,XR,XH,XQ]
         refine az (S.store (i:=0) rfl ?_ ?_ rfl rfl ?_ ono) ?_
         . exact(by exact Tryz.t220.2.1)
         . exact(by intro x e;cases e)
         . exact lbt rfl
         clear S;rintro h ⟨S,f⟩;clear f;simp only [LC,ah,lay,XD,XE,Nat.reduceAdd]at S
         simp only [BS,LB,Nat.reduceLT,Nat.reduceEqDiff,Fi,r0,S.lds (b:=b9) (o:=0) (n:=6) m0 (lbt rfl)]
         refine cy j (U.gr S.gr) (j.gr _ _ _ _ a S.gr) (i:=3*i+2) (by rw [Xq,show(plA n A)[3*i+2]? =_ from z.2.2,B];simp [jB]) ?_ ?_ ?_
         . intro h4 F4 a s4 ai ak
           simp only [BS,LB,Nat.reduceLT,Nat.reduceEqDiff,Int.reduceAdd,w3]
           rw [bW]
           simp only [BS,LB,Nat.reduceLT,Nat.reduceEqDiff,Int.reduceLT,r13,w]
           exact ih (i+1) _ _ (by omega) ⟨by omega,F4,s4,a,by simp [aa,r0],by simp [aa,r3],by simp [aa,r11],by simp [aa,r12],by simp [aa]⟩
         . intro r a _
           simp only [BS,LB,Nat.reduceLT,Nat.reduceEqDiff]
           exact fk rfl ⟨rfl,.inr (.inl ⟨_,rfl,a⟩)⟩
         . intro v r a
           simp only [BS]
           exact jJ (cB ⟨rfl,.inr (.inr ⟨_,rfl,a⟩)⟩)
       . intro r a _
         simp only [BS,LB,Nat.reduceLT,Nat.reduceEqDiff]
         exact fk rfl ⟨rfl,.inr (.inl ⟨_,rfl,a⟩)⟩
       . intro v r a
         simp only [BS]
         exact jJ (cB ⟨rfl,.inr (.inr ⟨_,rfl,a⟩)⟩)
     . intro r a _
       simp only [BS,LB,Nat.reduceLT,Nat.reduceEqDiff]
       exact fk rfl ⟨rfl,.inr (.inl ⟨_,rfl,a⟩)⟩
     . intro v r a
       simp only [BS]
       exact jJ (cB ⟨rfl,.inr (.inr ⟨_,rfl,a⟩)⟩)
   . simp only [BS,LB,Nat.reduceLT,r12,r13,aB,hlt]
     have:i=A.length:=by omega
     subst this
     exact bO (cB ⟨rfl,_,rfl,rfl,.inl ⟨_,F,rfl,by simpa [plA_len]using t⟩⟩)
 . exact⟨by omega,F,s,t,by simp [aa,bQ],by simp [aa],by simp [aa],by simp [aa],by simp [aa]⟩
def Tryz.F0U:=aj t1<|aj t2<|aj t3<|aj t24<|aj t29<|aj Z0<|aj t45<|aj Z2<|t214
def Tryz.F0V:=aj t1<|aj t2<|aj t3<|aj t24<|aj t29<|aj Z0<|aj Z2<|t214
def Tryz.F0W:=aj t1<|aj t2<|aj t3<|aj t24<|aj t29<|aj Z0<|aj t45<|aj Z2<|t214
def Tryz.F0X:=aj t1<|aj t2<|aj t3<|aj t24<|aj t29<|aj Z0<|aj Z2<|t214
def Tryz.F0Y:=aj t1<|aj t2<|aj t3<|aj t24<|aj t29<|aj Z0<|aj Z2<|t214
theorem look1_ok{h0:Hp}(e:h0.t.Sized h0.n){c:Gra}(a:Good c){f i j:Value}{b:Nat}(k:Row h0 b [.int .i64 c.nodes,f,i,j] 1):Ret zM 139 [ptrTo b] h0 fun v d=>Gr h0 d/\mJ 0 h0.n v d:=by
 have S:=Si e
 have l:=a.n1
 have m:=a.n2
 refine ab (n:=5) (rs:=[.tmp 1]) rfl Tryz.e139 rfl rfl rfl (lbt rfl) ?_
 simp only [BS,LB,Nat.reduceLT,Nat.reduceEqDiff,F0U,k.load1 (o:=0) rfl]
 refine step_ret (one_ok S.ok (by omega) (by omega)) ?_;intro v h ⟨g,t⟩;replace S:=S.call g;clear g
 simp only [BS,LB,ac,Nat.reduceLT,Nat.reduceEqDiff]
 exact⟨S.gr,t⟩
theorem look2_ok{h0:Hp}(j:h0.t.Sized h0.n){a:Gra}(c:Good a){d e f:Value}(k:c8 h0 d e f a){b:Nat}(l:Row h0 b [.int .i64 a.nodes,d,e,f] 1):Ret zM 141 [ptrTo b] h0 fun v i=>Gr h0 i/\mJ 0 h0.n v i:=by
 have S:=Si j
 refine ab (n:=4) (rs:=[.tmp 1]) rfl Tryz.e141 rfl rfl rfl (lbt rfl) ?_
 simp only [BS,LB,Nat.reduceLT,Nat.reduceEqDiff,F0V,l.load (o:=0) (n:=4) (lbt rfl)]
 refine step_ret (shapes_ok S.ok c k) ?_;intro v h ⟨g,t⟩;replace S:=S.call g;clear g
 simp only [BS,LB,ac,Nat.reduceLT,Nat.reduceEqDiff]
 exact⟨S.gr,t⟩
theorem look4_ok{h0:Hp}(j:h0.t.Sized h0.n){a:Gra}(c:Good a){d e f:Value}(k:c8 h0 d e f a){b:Nat}(l:Row h0 b [.int .i64 a.nodes,d,e,f] 1):Ret zM 145 [ptrTo b] h0 fun v i=>Gr h0 i/\mJ 0 h0.n v i:=by
 have S:=Si j
 have m:=c.many
 refine ab (n:=6) (rs:=[.tmp 1]) rfl Tryz.e145 rfl rfl rfl (lbt rfl) ?_
 simp only [BS,LB,Nat.reduceLT,Nat.reduceEqDiff,F0W,l.load1 (o:=3) rfl,k.A.lenq]
 refine step_ret (one_ok S.ok (by omega) (by omega)) ?_;intro v h ⟨g,t⟩;replace S:=S.call g;clear g
 simp only [BS,LB,ac,Nat.reduceLT,Nat.reduceEqDiff]
 exact⟨S.gr,t⟩
theorem look3_ok{h0:Hp}(w:h0.t.Sized h0.n){d:Gra}(a:Good d){k l r:Value}(s:c8 h0 k l r d){b m:Nat}(x: ∀c,ar k c->c<m)(y: ∀c,ar l c->c<m)(z:Row h0 b [.int .i64 d.nodes,k,l,r] 1):Ret zM 143 [ptrTo b] h0 fun v t=>Gr h0 t/\mJ m h0.n v t:=by
 have S:=Si w
 have A:=a.n2
 have B:=a.lX
 have C:=a.lY
 refine ab (n:=4) (rs:=[.tmp 1]) rfl Tryz.e143 rfl rfl rfl (lbt rfl) ?_
 simp only [BS,LB,Nat.reduceLT,Nat.reduceEqDiff,F0X,z.load (o:=0) (n:=4) (lbt rfl)]
 refine step_ret (nodes_ok S.ok) ?_;intro v h ⟨g,b2,e,q2,R⟩;replace S:=S.call g;clear g
 subst e
 simp only [BS,LB,ac,Nat.reduceLT,Nat.reduceEqDiff]
 refine⟨S.gr,_,#[],#[ptrTo b2],_,_,rfl,Ah S.ok R (s.X.gr S.gr) (s.Y.gr S.gr) (by omega) (by omega),fun p q=>?_,fun c f=>?_⟩
 . unfold plN at q
   simp only [List.mem_flatMap,X7,Xy,XF,or_false]at q
   obtain⟨i,u,rfl|rfl⟩:=q
   . have:=a.cX d.X[i] (XL u)
     simp only [zO,Xx u,XZ];omega
   . have j:i<d.Y.length:=by omega
     have:=a.cY d.Y[i] (XL j)
     simp only [zO,Xx j,XZ];omega
 . rcases f with rfl|f|f
   . exact .inr q2
   . exact .inl (x c f)
   . exact .inl (y c f)
theorem look5_ok{h0:Hp}(t:h0.t.Sized h0.n){d:Gra}(a:Good d){l m f:Value}(u:c8 h0 l m f d){b q:Nat}(w: ∀c,ar f c->c<q)(x:Row h0 b [.int .i64 d.nodes,l,m,f] 1):Ret zM 146 [ptrTo b] h0 fun v r=>Gr h0 r/\mJ q h0.n v r:=by
 have S:=Si t
 have y:=a.many
 refine ab (n:=4) (rs:=[.tmp 1]) rfl Tryz.e146 rfl rfl rfl (lbt rfl) ?_
 simp only [BS,LB,Nat.reduceLT,Nat.reduceEqDiff,F0Y,x.load (o:=0) (n:=4) (lbt rfl)]
 refine step_ret (arcs_ok S.ok) ?_;intro v h ⟨g,b2,e,q2,R⟩;replace S:=S.call g;clear g
 subst e
 simp only [BS,LB,ac,Nat.reduceLT,Nat.reduceEqDiff]
 refine⟨S.gr,_,#[],#[ptrTo b2],_,_,rfl,arcs_iter S.ok R (u.A.gr S.gr) (by omega),fun p j=>?_,fun c k=>?_⟩
 . unfold plA at j
   simp only [List.mem_flatMap,X7,Xy,XF,or_false]at j
   obtain⟨i,s,h⟩:=j
   have:=a.arcs d.arcs[i] (XL s)
   simp only [zO,Xx s,XZ]at h
   rcases h with rfl|rfl|rfl<;>(simp only [];omega)
 . rcases k with rfl|k
   . exact .inr q2
   . exact .inl (w c k)
def Tryz.FB:=aj t1<|aj t2<|aj t3<|aj t4<|aj t5<|aj t6<|aj Z3<|aj Z4<|aj t17<|aj Z22<|aj t20<|aj t24<|aj t29<|aj Z0<|aj t45<|aj Z2<|aj t90<|aj r90<|aj t92<|aj t143<|aj r143<|aj t214<|aj t216<|aj t218<|aj Z19<|Z16
theorem look_ok {h0:Hp} (z:h0.t.Sized h0.n) {O:Gra} (l:Good O) {Z vy va:Value} (A:c8 h0 Z vy va O):Ret zM 66 [jh O Z vy va] h0 fun v f=>Gr h0 f:=by
 have S:=Si z
 refine ab (n:=44) (rs:=[]) rfl Tryz.e66 rfl rfl rfl (lbt rfl) ?_
 simp only [BS,Nat.reduceLT,jh]
 refine ae (bg (by intro x e;cases e)) S ?_;clear S;intro h b S ak;simp only [ah]at S
 simp only [BS,LB,Nat.reduceLT,Nat.reduceEqDiff]
 refine ae (bH (by exact Tryz.t218.1) (by exact Tryz.e216E) (by decide) (by rfl)) S ?_;clear S;intro h bs S ad;simp only [LC,aT,bz,ah,Nat.reduceMul,Nat.reduceAdd,Xn,Xl,Xu,XG]at S
 simp only [BS,LB,Nat.reduceLT,Nat.reduceEqDiff,Xj,FB]
 have P: ∀i,i<5-> ∃g a c,[Value.func (.func 139) #[] #[.pointer (some ⟨b,0,none⟩)],.func (.func 141) #[] #[.pointer (some ⟨b,0,none⟩)],.func (.func 143) #[] #[.pointer (some ⟨b,0,none⟩)],.func (.func 145) #[] #[.pointer (some ⟨b,0,none⟩)],.func (.func 146) #[] #[.pointer (some ⟨b,0,none⟩)]][i]? =some (.func (.func g) a c)/\
  ∀f,Gr h f->Ret zM g (a.toList++c.toList) f fun v k=>Gr f k/\mJ h0.n f.n v k:=by
  intro i hi
  have s:=S.row (b:=b) m1
  have r:=A.gr S.gr
  have Q: ∀f v k,Gr f k/\mJ 0 f.n v k->Gr f k/\mJ h0.n f.n v k:=by
   rintro f v k ⟨a,R,a1,T,I,D,b1,b2,b3,B⟩
   exact⟨a,R,a1,T,I,D,b1,b2,b3,fun c t=>(B c t).elim (fun h=>by omega) .inr⟩
  match i,hi with
  |0,_=>exact⟨_,_,_,rfl,fun f g=>pS (look1_ok g.ok l (s.gr g)) (Q f)⟩
  |1,_=>exact⟨_,_,_,rfl,fun f g=>pS (look2_ok g.ok l (r.gr g) (s.gr g)) (Q f)⟩
  |2,_=>exact⟨_,_,_,rfl,fun f g=>look3_ok g.ok l (r.gr g) (fun c t=>A.X.lt z t) (fun c t=>A.Y.lt z t) (s.gr g)⟩
  |3,_=>exact⟨_,_,_,rfl,fun f g=>pS (look4_ok g.ok l (r.gr g) (s.gr g)) (Q f)⟩
  |4,_=>exact⟨_,_,_,rfl,fun f g=>look5_ok g.ok l (r.gr g) (fun c t=>A.A.lt z t) (s.gr g)⟩
 have Rs:=S.row (b:=bs) m0
 have g0:=S.gr
 have C:=S.ok
 clear S A z
 revert P Rs
 generalize [Value.func (.func 139) #[] #[.pointer (some ⟨b,0,none⟩)],.func (.func 141) #[] #[.pointer (some ⟨b,0,none⟩)],.func (.func 143) #[] #[.pointer (some ⟨b,0,none⟩)],.func (.func 145) #[] #[.pointer (some ⟨b,0,none⟩)],.func (.func 146) #[] #[.pointer (some ⟨b,0,none⟩)]]=fs
 intro P Rs
 rename Hp=>E
 have al:=Rs.lt C
 have aL:=g0.n
 have S:=Si C
 refine pd (fun(i:Nat) J d f=>i<=5/\ ∃j:List Nat,d=j.map oZ/\St NoM E f (c5 j) []/\J 10=.slice (some ⟨bs,0,none⟩) 5 5/\J 11=.int .i64 5/\J 12=.int .i64 i) (fun i=>5-i) ?_ 0 _ _ _ ?_
 . clear S
   intro i ih J d h ⟨hi,j,K,S,r10,r11,r12⟩
   have w:ao .i64 ((i:Int)+1)=((i+1:Nat):Int):=by rw [wrap64]<;>omega
   by_cases hlt:i<5
   . obtain⟨g,a,c,U,s⟩:=P i hlt
     have Rl:=(Rs.gr S.gr).load1 U
     have m:(i:Int)<5:=by omega
     simp only [BS,LB,Nat.reduceLT,Nat.reduceEqDiff,FB,r10,r11,r12,m,hlt,Rl]
     refine ae ax S ?_;clear S;intro h b2 S af
     simp only [BS,LB,Nat.reduceLT,Nat.reduceEqDiff]
     refine az (ay S (i:=0) rfl ?_ ?_ ?_ ono) ?_
     . exact(by simp only [FB])
     . exact(by exact aU)
     . exact XT (lbt rfl)
     clear S;rintro h ⟨S,V⟩;clear V;simp only [LC,ah,lay,XD,XE,Nat.reduceAdd]at S
     simp only [BS,LB,Nat.reduceLT,Nat.reduceEqDiff]
     replace S:=S.drop1
     have kl: ∀b∈keys (c5 j) [],b<h.n:=fun b q=>S.key_lt q
     refine step_ret (s _ S.gr) ?_;intro v h ⟨g,R,T,post,I,D,e,it,hps,hD⟩;replace S:=S.call g;clear g
     subst e
     simp only [BS]
     refine fu S (g:=R) (a:=T) (b:=post) (by simp [bS,aa]) rfl rfl ?_
     intro M G H u a0 a3 g2
     obtain⟨X,hX,u⟩: ∃X:d9,X=_/\St NoM E M ((H,.loop X)::(G,.dfr)::c5 j) []:=⟨_,rfl,u⟩
     have hJ:Yld zM H (fun _ f F=>St NoM E f ((H,.loop X)::(G,.dfr)::c5 j) []/\F=keys ((H,.loop X)::(G,.dfr)::c5 j) []) (fun _ _=>False) (I.map fun p=>[.agg ⟨jB p⟩]):=by
      refine⟨?_,?_,fun _ _ h=>h.elim,?_⟩
      . rintro i h F ⟨S,rfl⟩;exact⟨S.ok,fun b q=>S.key_lt q⟩
      . rintro i h F f ⟨S,rfl⟩ g;exact⟨S.call g,rfl⟩
      . rintro i x h F hx ⟨S,rfl⟩
        obtain⟨p,hp,rfl⟩: ∃p∈I,x=[.agg ⟨jB p⟩]:=by
         rw [Xq,Option.map_eq_some_iff]at hx
         obtain⟨p,E,M⟩:=hx
         exact⟨p,Xb E,M.symm⟩
        obtain⟨p1,p2⟩:=hps p hp
        have W: ¬p.n<p.lo:=by omega
        have Y: ¬p.hi<=p.n:=by omega
        subst hX
        refine fH (S.get m0) (by rw [Tryz.e66];rfl) rfl ?_
        have S0:=S
        replace S:=S.base
        simp only [BS,FB]
        refine ae ax S ?_;clear S;intro h B S ai
        simp only [BS,LB,Nat.reduceLT,Nat.reduceEqDiff,jB]
        refine az (S.store (i:=0) rfl ?_ ?_ rfl rfl ?_ ono) ?_
        . exact(by exact Tryz.t220.2.1)
        . exact(by intro x e;cases e)
        . exact lbt rfl
        clear S;rintro h ⟨S,V⟩;clear V;simp only [LC,ah,lay,XD,XE,Nat.reduceAdd]at S
        simp only [BS]
        refine eI S (i:=1) rfl rfl rfl rfl rfl ?_
        clear S;intro h S
        simp only [BS,LB,Nat.reduceLT,Nat.reduceEqDiff,FB,W,Y,S.ld (b:=B) (o:=3) m0 rfl,S.ld (b:=B) (o:=4) m0 rfl,S.ld (b:=B) (o:=5) m0 rfl]
        refine dl S (i:=1) rfl ?_
        clear S;intro h S
        exact .inl ⟨rfl,_,⟨S0.rebase S.drop1,rfl⟩,S.fr,S.drop1.key_new⟩
     refine ef (yd it hJ (h:=M) (F:=keys ((H,.loop _)::(G,.dfr)::c5 j) []) g2.fr (fun b q hlt=>?_) ⟨u,rfl⟩) fun o rc f y=>iA y ?_
     . intro K
       have N:=u.key_own q
       rcases hD b K with hh|hh
       . rcases N with N|N
         . omega
         . exact N
       . rcases List.mem_cons.1 q with rfl|q
         . omega
         . rcases List.mem_cons.1 q with rfl|q
           . omega
           . have:=kl b q;omega
     . rintro F ⟨S,rfl⟩
       subst hX
       refine⟨_,S.get m0,Nat.zero_ne_one,?_⟩
       replace S:=S.dead
       show Run _ _ _ _ _ _ _ _
       simp only [BS,LB,Nat.reduceLT,Nat.reduceEqDiff,r12,w]
       exact ih (i+1) _ _ _ (by omega) ⟨by omega,G::j,by rw [K];rfl,S,by simp [aa,r10],by simp [aa,r11],by simp [aa]⟩
   . have m: ¬(i:Int)<5:=by omega
     simp only [BS,LB,Nat.reduceLT,r11,r12,m]
     subst K
     refine bO (eQ j h (L:=[]) (by rw [List.append_nil];exact S) fun f u=>⟨rfl,_,rfl,g0.trans u.gr⟩)
 . exact⟨by omega,[],rfl,S,by simp [aa],by simp [aa],by simp [aa]⟩
end Go.Ab
end
section
namespace Go.Ab
theorem au.form{α:Type}{h:Hp}{k:Nat}{enc:α->List Value}{v:Value}{xs:List α}(s:au h k enc v xs): ∃a n c,v=.slice a n c:=by
 rcases s with⟨rfl,_⟩|⟨b,o,s,c,rfl,_⟩<;>exact⟨_,_,_,rfl⟩
section
variable{M:Nat->Prop}{h0 h:Hp}{E:Env}{L:List (Nat×Ob)}{G:List GL}
def WrK{α:Type}(h:Hp)(k:Nat)(enc:α->List Value)(w:Value)(l:List α):Prop:=l≠ []-> ∃b,w=.slice (some ⟨b,0,some k⟩) l.length l.length/\Row h b (l.flatMap enc) 1
theorem WrK.mo{α:Type}{M:Nat->Prop}{h a:Hp}{k:Nat}{enc:α->List Value}{w:Value}{l:List α}(r:WrK h k enc w l)(g:Mo M h a)(c: ∀b,ar w b-> ¬M b):WrK a k enc w l:=
 fun d=>by obtain⟨b,e,k⟩:=r d;exact⟨b,e,g.has (o:=.row _ 1) k (c b (by rw [e];rfl))⟩
theorem St.cloneW{α:Type}{enc:α->List Value}{ys:List α}(S:St M h0 h L G){t i e:TypeId}{d k md:Nat}{z:List Value}{b:Nat}{x:Value}(m:E.und t=some (.slice e))(o:dX E e d k z)(p:0<d)
 (q:dE E i=some false) (r:au h k enc x ys) (f: ∀x,(enc x).length=k) (s:0<k) (g:(ys.length*k)*(d+1)<=70368744177664) {ts:List TypeId}
 (u:Row h b [] md):
 ∃a v',c6 E h (t::i::ts) (.slice (some ⟨b,0,none⟩) 0 0) x=some (a,v')/\St M h0 a L G/\Gr h a/\au a k enc v' ys/\(∀c,ar v' c->c=b\/h.n<=c)/\WrK a k enc v' ys:=by
 obtain⟨a,v',v,A,B,C,D⟩:=S.cloneSl (enc:=enc) (xs:=[]) m o p q r f s (by simpa using g) (ts:=ts) (b:=b) (md:=md) (by simpa using u)
 refine⟨a,v',v,A,B,by simpa using C,D,fun j=>?_⟩
 obtain⟨F,H,w,I⟩:=S.clone m o p q r.src (bA f ys).symm (n:=0) (by simp) s (by rw [bA f];simpa using g) (ts:=ts) u
 have l:c6 E h (t::i::ts) (.slice (some ⟨b,0,none⟩) 0 0) x=some (a,v'):=v
 rw [l]at w
 cases w
 rcases I with⟨J,_⟩|⟨y,K,T⟩
 . exact absurd (List.length_eq_zero_iff.1 J) j
 . refine⟨y,by rw [K,Xl],?_⟩
   have:=T.row (b:=y) m0
   simpa using this
end
end Go.Ab

end
section
namespace Go.Ab
open Go.Proofs
set_option maxRecDepth 10000
def Tryz.F0Z:=aj t1<|aj t2<|aj t3<|aj t4<|aj t5<|aj t20<|aj t41<|aj t90<|aj r90<|aj t92<|aj t143<|r143
def Tryz.FY:=aj t1<|aj t2<|aj t3<|aj t24<|aj t29<|aj Z0<|aj t41<|Z2
def Tryz.F0c:=aj t1<|aj t2<|aj t3<|aj t4<|t24
def Tryz.F0d:=aj t1<|aj t2<|aj t3<|aj t4<|aj t29<|Z2
theorem check1_ok{h0:Hp}(a:h0.t.Sized h0.n){b:Nat}:fS zM 65 [ptrTo b] none h0 fun o c d=>(∃v,o=.ret v)/\c=none/\Gr h0 d:=by
 have S:=Si a
 refine enter (n:=17) (rs:=[]) rfl Tryz.e65 rfl rfl rfl (lbt rfl) ?_
 simp only [BS,LB,Nat.reduceLT,Nat.reduceEqDiff,F0Z]
 exact bO (cB ⟨rfl,_,rfl,⟨_,rfl⟩,rfl,S.gr⟩)
theorem check_ok{h0:Hp}(p:h0.t.Sized h0.n){c:Gra}(d:Good c){f j k:Value}(q:c8 h0 f j k c):aK zM 31 [jh c f j k] h0 .nilIface:=by
 have S:=Si p
 refine ab (n:=6) (rs:=[.cell 2 41]) rfl Tryz.e31 rfl rfl rfl (lbt rfl) ?_
 simp only [BS,Nat.reduceLT,jh]
 refine ae (bg (by intro x e;cases e)) S ?_;clear S;intro h b S r;simp only [ah]at S
 simp only [BS,FY]
 refine ae ax S ?_;clear S;intro h s S m
 simp only [BS,LB,Nat.reduceLT,Nat.reduceEqDiff,FY,S.lds (b:=b) (o:=0) (n:=4) m1 (lbt rfl)]
 refine step_ret (look_ok S.ok d (q.gr S.gr)) ?_;intro v h g;replace S:=S.call g;clear g
 simp only [BS,LB,Nat.reduceLT,Nat.reduceEqDiff]
 refine az (ay S (i:=0) rfl ?_ ?_ ?_ ono) ?_
 . exact(by simp only [FY])
 . exact(by exact fl_nili)
 . exact XT (lbt rfl)
 clear S;rintro h ⟨S,t⟩;clear t;simp only [LC,ah,lay,XD,XE,Nat.reduceAdd]at S
 simp only [BS]
 refine df (un_fn (ef (check1_ok S.ok) fun o u w ⟨a,b,g⟩=>⟨a,b,cB ⟨rfl,?_⟩⟩))
 replace S:=S.call g
 have l:=S.ld (b:=s) (o:=0) m0 rfl
 exact⟨_,rz (by decide) (by simp only [aJ,ag,Nat.reduceEqDiff,reduceIte];exact gu Tryz.t41.1 l),rfl,S.gr⟩
theorem tU{h0:Hp}(i:h0.t.Sized h0.n){v:Value}{xs:List Int}(j:au h0 1 (encI .i64) v xs)(q:xs.length<1000000):Ret zM 71 [v] h0 fun r a=>Gr h0 a/\au a 1 (encI .i64) r xs/\ ∀c,ar r c->h0.n<=c:=by
 have S:=Si i
 rcases j with⟨rfl,rfl⟩|⟨b,o,s,c,rfl,k,l⟩
 . refine ab (n:=8) (rs:=[.tmp 2]) rfl Tryz.e71 rfl rfl rfl (lbt rfl) ?_
   simp only [BS,LB,ac,Nat.reduceLT,Nat.reduceEqDiff,F0c]
   exact⟨S.gr,.inl ⟨rfl,rfl⟩,fun c d=>d.elim⟩
 . refine ab (n:=8) (rs:=[.tmp 2]) rfl Tryz.e71 rfl rfl rfl (lbt rfl) ?_
   simp only [BS,LB,Nat.reduceLT,Nat.reduceEqDiff,F0c]
   refine ae (bH (by exact Tryz.t24.1) (by exact Tryz.e2E) (by decide) (by rfl)) S ?_;clear S;intro h t S f;simp only [LC,aT,bz,ah,Nat.reduceMul,Nat.reduceAdd,Xn,Xl,Xu,XG]at S
   simp only [BS,LB,Nat.reduceLT,Nat.reduceEqDiff]
   refine dz (S.cloneSl (enc:=encI .i64) (xs:=[]) Tryz.t24.1 Tryz.e2E (by decide) Tryz.t24.2.2.2.2.2 (.inr ⟨b,o,s,c,rfl,k,S.old l (fun h=>h)⟩) (fun x=>rfl) (by decide) (by simp only [X4,Xl];omega) (S.row m0)) ?_
   rintro a v ⟨m,g,p,d⟩
   simp only [BS,LB,ac,Nat.reduceLT,Nat.reduceEqDiff]
   refine⟨m.gr,by simpa using p,fun c h=>(d c h).elim (fun e=>by omega) (fun e=>Xw S.fr.n e)⟩
theorem yT{h0:Hp}(i:h0.t.Sized h0.n){v:Value}{xs:List Arc}(j:au h0 3 (cu) v xs)(q:xs.length<1000000):Ret zM 72 [v] h0 fun r a=>Gr h0 a/\au a 3 (cu) r xs/\(∀c,ar r c->h0.n<=c)/\WrK a 3 cu r xs:=by
 have S:=Si i
 rcases j with⟨rfl,rfl⟩|⟨b,o,s,c,rfl,k,l⟩
 . refine ab (n:=8) (rs:=[.tmp 2]) rfl Tryz.e72 rfl rfl rfl (lbt rfl) ?_
   simp only [BS,LB,ac,Nat.reduceLT,Nat.reduceEqDiff,F0d]
   exact⟨S.gr,.inl ⟨rfl,rfl⟩,fun c d=>d.elim,fun h=>absurd rfl h⟩
 . refine ab (n:=8) (rs:=[.tmp 2]) rfl Tryz.e72 rfl rfl rfl (lbt rfl) ?_
   simp only [BS,LB,Nat.reduceLT,Nat.reduceEqDiff,F0d]
   refine ae (bH (by exact Tryz.t29.1) (by exact Tryz.e87E) (by decide) (by rfl)) S ?_;clear S;intro h t S f;simp only [LC,aT,bz,ah,Nat.reduceMul,Nat.reduceAdd,Xn,Xl,Xu,XG]at S
   simp only [BS,LB,Nat.reduceLT,Nat.reduceEqDiff]
   refine dz (S.cloneW (enc:=cu) (ys:=xs) Tryz.t29.1 Tryz.e87E (by decide) Tryz.t29.2.2.2.2.2 (.inr ⟨b,o,s,c,rfl,k,S.old l (fun h=>h)⟩) (fun x=>rfl) (by decide) (by omega) (S.row m0)) ?_
   rintro a v ⟨m,g,p,d,w⟩
   simp only [BS,LB,ac,Nat.reduceLT,Nat.reduceEqDiff]
   exact⟨m.gr,p,fun c h=>(d c h).elim (fun e=>by omega) (fun e=>Xw S.fr.n e),w⟩
def Tryz.FL:=aj t1<|aj t2<|aj t3<|aj t4<|aj t5<|aj t22<|aj t36<|aj t38<|r38
structure nw(h:Hp)(bd:Nat)(vB:Value)(xs:List Int)(a:Nat):Prop where
 sl:au h 1 (encI .u8) vB xs
 ne: ¬ar vB bd
 few:xs.length<1000000
 at_:a<100000
def drV(xs:List Int)(n a:Nat):Nat:=if h:xs.length=0 then 0 else(ao .u8 (xs[a%xs.length]'(Nat.mod_lt _ (by omega))+ao .u8 (ao .i64 ((a:Int).tdiv (xs.length:Int))))%(n:Int)).toNat
theorem xY{h0:Hp}(B:h0.t.Sized h0.n){d a n:Nat}{f:Value}{xs:List Int}(m:Row h0 d [f,.int .i64 a] 1)(C:nw h0 d f xs a)(K:1<=n)(D:n<1000):
 Ret zM 29 [ptrTo d,.int .i64 n] h0 fun v w=>Mo (· =d) h0 w/\ ∃r x:Nat,v=.int .i64 r/\r<n/\x<=a+1/\Row w d [f,.int .i64 x] 1/\r=drV xs n a:=by
 have S:=St.init1 B (o:=.row [f,.int .i64 a] 1) m
 obtain⟨p,t,L,M⟩:=C
 have N:=p.fl
 have E:ao .i64 ((a:Int)+1)=((a+1:Nat):Int):=by rw [wrap64]<;>omega
 have F:ao .i64 (((a+1:Nat):Int)-1)=(a:Int):=by rw [wrap64]<;>omega
 have G: ¬(n:Int)<1:=by omega
 by_cases g:xs.length=0
 . have s:(xs.length:Int)=0:=by omega
   refine ab (n:=55) (rs:=[.tmp 4]) rfl Tryz.e29 rfl rfl rfl (lbt rfl) ?_
   simp only [BS,LB,ac,Nat.reduceLT,Nat.reduceEqDiff,FL,p.lenq,s,S.ld (b:=d) (o:=0) m0 rfl]
   exact⟨S.fr,0,a,rfl,by omega,by omega,S.row m0,by unfold drV;rw [dif_pos g]⟩
 . have s: ¬(xs.length:Int)=0:=by omega
   have j:a%xs.length<xs.length:=Nat.mod_lt _ (by omega)
   have H:(a:Int).tmod (xs.length:Int)=((a%xs.length:Nat):Int):=by rw [XS (by omega)];exact(Int.natCast_emod _ _).symm
   refine ab (n:=55) (rs:=[.tmp 4]) rfl Tryz.e29 rfl rfl rfl (lbt rfl) ?_
   simp only [BS,LB,Nat.reduceLT,Nat.reduceEqDiff,FL,p.lenq,s,G,E,S.ld (b:=d) (o:=0) m0 rfl,S.ld (b:=d) (o:=1) m0 rfl]
   refine az (ay S (i:=0) rfl ?_ ?_ ?_ ono) ?_
   . exact(by simp only [FL])
   . exact(by exact aU)
   . exact XT (lbt rfl)
   clear S;rintro h ⟨S,I⟩;clear I;simp only [LC,ah,lay,XD,XE,Nat.reduceAdd]at S
   have k:au h 1 (encI .u8) f xs:=p.mo S.fr (fun b J e=>t (e▸J))
   obtain⟨c,o,l,u⟩:=k.ix (kd:=.i64) (bG _) j
   have y:(xs.length:Int)≠0:=s
   have A:(n:Int)≠0:=by omega
   simp only [BS]
   refine av (aC rfl) (q:=0) (ps:=[]) (by kernel_rfl) ?_
   simp only [BS,LB,jc,ca,jg,cls,ac,Nat.reduceLT,Nat.reduceEqDiff,Nat.reduceAdd,Nat.reducePow,Nat.reduceDiv,Nat.reduceMod,Nat.reduceLeDiff,FL,k.lenq,F,mT y,lj y,mT A,H,l,u,encI,S.ld (b:=d) (o:=0) m0 rfl,S.ld (b:=d) (o:=1) m0 rfl]
   have m:(ao .i64 (ao .u8 (xs[a%xs.length]+ao .u8 (ao .i64 ((a:Int).tdiv (xs.length:Int)))))).tmod (n:Int)=((drV xs n a:Nat):Int)/\drV xs n a<n:=by
    unfold drV
    rw [dif_neg g]
    generalize xs[a%xs.length]+ao .u8 (ao .i64 ((a:Int).tdiv (xs.length:Int)))=z
    have O:=wrap8 z
    rw [wrap64 (by omega) (by omega),XS (by omega)]
    have P:=Int.emod_nonneg (ao .u8 z) A
    have Q:=Int.emod_lt_of_pos (ao .u8 z) (show(0:Int)<n by omega)
    exact⟨by omega,by omega⟩
   rw [m.1]
   exact⟨S.fr,_,a+1,rfl,m.2,XA _,S.row m0,rfl⟩
theorem im{h0:Hp}(i:h0.t.Sized h0.n){b a n:Nat}{d:Value}{xs:List Int}(j:Row h0 b [d,.int .i64 a] 1)(k:nw h0 b d xs a)(l:1<=n)(g:n<1000):
 Ret zM 29 [ptrTo b,.int .i64 n] h0 fun v h=>Mo (· =b) h0 h/\ ∃r c:Nat,v=.int .i64 r/\r<n/\c<=a+1/\Row h b [d,.int .i64 c] 1:=
 (xY i j k l g).mono fun v h ⟨f,r,c,e,m,o,p,_⟩=>⟨f,r,c,e,m,o,p⟩
theorem nw.mo{h g:Hp}{c:Nat}{i:Value}{xs:List Int}{a j:Nat}(d:nw h c i xs a)(f:Mo (· =c) h g)(k:j<100000):nw g c i xs j:=
 ⟨d.sl.mo f (fun b l e=>d.ne (e▸l)),d.ne,d.few,k⟩
theorem nw.gr{h b:Hp}{c:Nat}{e:Value}{xs:List Int}{a:Nat}(d:nw h c e xs a)(g:Gr h b):nw b c e xs a:=⟨d.sl.gr g,d.ne,d.few,d.at_⟩
theorem vg{h0:Hp}(y:h0.t.Sized h0.n){d a:Nat}{e:Value}{xs:List Int}(z:Row h0 d [e,.int .i64 a] 1)(s:nw h0 d e xs a)(D:a+2<100000):
 Ret zM 30 [ptrTo d] h0 fun v t=>Mo (· =d) h0 t/\ ∃r u:Nat,v=.int .i64 r/\r<=2147483647/\u<=a+2/\Row t d [e,.int .i64 u] 1:=by
 have S:=St.init1 y (o:=.row [e,.int .i64 a] 1) z
 refine ab (n:=24) (rs:=[.tmp 2]) rfl Tryz.e30 rfl rfl rfl (lbt rfl) ?_
 simp only [BS,LB,Nat.reduceLT,Nat.reduceEqDiff]
 refine step_ret (im (n:=12) S.ok (S.row m0) s (by omega) (by omega)) ?_
 rintro v h ⟨f,r,w,rfl,A,B,C⟩
 replace S:=S.call1 (i:=0) rfl f (o':=.row _ _) C
 have c:nw h d e xs w:=s.mo f (by omega)
 simp only [LC]at S
 by_cases p:(r:Int)<3
 . simp only [BS,LB,ac,Nat.reduceLT,Nat.reduceEqDiff,p]
   exact⟨S.fr,0,w,rfl,by omega,by omega,S.row m0⟩
 . by_cases q:(r:Int)<10
   . simp only [BS,LB,Nat.reduceLT,Nat.reduceEqDiff,p,q]
     refine step_ret (im (n:=9) S.ok (S.row m0) c (by omega) (by omega)) ?_
     rintro v h ⟨f,b,g,rfl,j,k,l⟩
     replace S:=S.call1 (i:=0) rfl f (o':=.row _ _) l
     simp only [LC]at S
     have m:ao .i64 (1+(b:Int))=((1+b:Nat):Int):=by rw [wrap64]<;>omega
     simp only [BS,LB,ac,Nat.reduceLT,Nat.reduceEqDiff,m]
     exact⟨S.fr,1+b,g,rfl,by omega,by omega,S.row m0⟩
   . by_cases x:(r:Int)<11
     . simp only [BS,LB,Nat.reduceLT,Nat.reduceEqDiff,p,q,x]
       refine step_ret (im (n:=20) S.ok (S.row m0) c (by omega) (by omega)) ?_
       rintro v h ⟨f,b,g,rfl,j,k,l⟩
       replace S:=S.call1 (i:=0) rfl f (o':=.row _ _) l
       simp only [LC]at S
       have m:ao .i64 (100*(b:Int))=((100*b:Nat):Int):=by rw [wrap64]<;>omega
       simp only [BS,LB,ac,Nat.reduceLT,Nat.reduceEqDiff,m]
       exact⟨S.fr,100*b,g,rfl,by omega,by omega,S.row m0⟩
     . simp only [BS,LB,Nat.reduceLT,Nat.reduceEqDiff,p,q,x]
       refine step_ret (im (n:=2) S.ok (S.row m0) c (by omega) (by omega)) ?_
       rintro v h ⟨f,b,g,rfl,j,k,l⟩
       replace S:=S.call1 (i:=0) rfl f (o':=.row _ _) l
       simp only [LC]at S
       have m:ao .i64 (2147483647-(b:Int))=((2147483647-b:Nat):Int):=by rw [wrap64]<;>omega
       simp only [BS,LB,ac,Nat.reduceLT,Nat.reduceEqDiff,m]
       exact⟨S.fr,2147483647-b,g,rfl,by omega,by omega,S.row m0⟩
end Go.Ab
end

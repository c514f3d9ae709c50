/- Nets, cells, flags: what the functions do (part 1). -/
import Derived.Test.YtoifagpcndmlgabGreatDoorEnv
open Go.Ab.Tryz
open Go.Ab.Tryz renaming abEnv->zL
open And renaming intro->zM
open List renaming getElem?_append_right->zO,mem_of_getElem?->Xa,getD_eq_getElem?_getD->Xc,getElem?_append_left->Xd,range->Xf,ext_getElem?->Xh,getElem?_replicate->Xi,nodup_append->Xl,getElem?_map->Xm,length_take->Xp,replicate->Xq,take->Xr,drop->Xs,length_flatMap->Xu,length_append->Xv,getElem?_eq_getElem->Xx,map_cons->Xz,mem_cons->XA,length_replicate->XD,nodup_cons->XE,map_const'->XF,take_succ_cons->XG,drop_zero->XH,not_mem_nil->XK,getElem_mem->XL,range_succ->XN,length_set->XO,mem_range->XQ,flatMap_eq_foldl->XS,take_zero->XT,getElem?_append->XU,flatMap_append->XV,drop_succ_cons->XW
open Nat renaming ble_eq_true_of_le->Xb,zero_add->Xg,zero_mul->Xj,mul_one->Xn,le_trans->Xo,one_mul->Xt,le_refl->Xy,ble->XB,beq->XC,lt_of_succ_le->XJ,min_eq_left->XP,eq_of_beq_eq_true->XR,beq_refl->XX,sub_zero->XY,add_zero->XZ
open Int renaming cast_ofNat_Int->Xe,tmod_eq_emod_of_nonneg->XI
open Prod renaming fst->Xk
open Option renaming isSome_none->Xw,getD_some->XM
set_option maxHeartbeats 4000000
set_option linter.defProp false
set_option linter.unusedVariables false
set_option linter.unusedSimpArgs false
section
namespace Go.Ab
theorem Si{h:Hp}(a:h.t.Sized h.n):St NoM h h [] []:=St.init a
theorem aj{a b:Prop}(x:a)(y:b):a/\b:=⟨x,y⟩
set_option linter.defProp false in
def LC:=zM @List.set_cons_zero.{0}<|zM @List.set_cons_succ.{0}<|zM @List.cons_append.{0}<|zM @List.nil_append.{0}<|zM @List.append_nil.{0}<|zM @List.length_cons.{0}<|zM @List.length_nil.{0}<|@Nat.add_zero
theorem lbt{a b:Nat}(h:XB a b=true):a<=b:=Nat.le_of_ble_eq_true h
theorem ono:(1:Nat)≠0:=Nat.one_ne_zero
set_option linter.defProp false in
def LB:=zM @if_true.{1}<|zM @if_false.{1}<|zM @eq_self.{1}<|zM @List.map_cons.{0,0}<|zM @List.map_nil.{0,0}<|zM @List.append_nil.{0}<|zM @List.nil_append.{0}<|zM @List.cons_append.{0}<|zM @List.getElem?_cons_zero.{0}<|zM @List.getElem?_cons_succ.{0}<|zM @List.set_cons_zero.{0}<|zM @List.set_cons_succ.{0}<|zM @List.length_cons.{0}<|zM @List.length_nil.{0}<|zM @Nat.add_zero<|zM @Nat.zero_add<|zM @Nat.mul_one<|zM @Nat.zero_mul<|zM @cond_true.{1}<|zM @cond_false.{1}<|zM @decide_true<|zM @decide_false<|zM @Bool.and_true<|zM @Bool.and_false<|zM @Bool.not_false<|zM @Bool.not_true<|zM @true_and<|zM @and_true<|zM @Option.isSome_some.{0}<|@List.map_toArray.{0,0}
open Go.Proofs
namespace Tryz
abbrev TQ0(i:TypeId)(A:Bool)(S:Nat)(Z:List Value):Prop:=abEnv.agg i=some A/\abEnv.sz i=some S/\abEnv.zero i=some Z/\dJ zL i=some false
theorem kTQ0{i:TypeId}{A:Bool}{S:Nat}{Z:List Value}(h:(abEnv.agg i,abEnv.sz i,abEnv.zero i,dJ zL i)=(some A,some S,some Z,some false)):TQ0 i A S Z:=by simpa only [Prod.mk.injEq]using h
abbrev TQ1(i:TypeId)(U:TypeDesc)(A:Bool)(S:Nat)(Z:List Value):Prop:=abEnv.und i=some U/\abEnv.agg i=some A/\abEnv.sz i=some S/\abEnv.zero i=some Z/\kx zL i=true
theorem kTQ1{i:TypeId}{U:TypeDesc}{A:Bool}{S:Nat}{Z:List Value}(h:(abEnv.und i,abEnv.agg i,abEnv.sz i,abEnv.zero i,kx zL i)=(some U,some A,some S,some Z,true)):TQ1 i U A S Z:=by simpa only [Prod.mk.injEq]using h
abbrev TQ2(i:TypeId)(U:TypeDesc)(A:Bool)(S:Nat)(Z:List Value):Prop:=abEnv.und i=some U/\abEnv.agg i=some A/\abEnv.sz i=some S/\abEnv.zero i=some Z/\dJ zL i=some false
theorem kTQ2{i:TypeId}{U:TypeDesc}{A:Bool}{S:Nat}{Z:List Value}(h:(abEnv.und i,abEnv.agg i,abEnv.sz i,abEnv.zero i,dJ zL i)=(some U,some A,some S,some Z,some false)):TQ2 i U A S Z:=by simpa only [Prod.mk.injEq]using h
abbrev TQ3(i:TypeId)(A:Bool)(S:Nat)(Z:List Value)(P:List (Nat×Nat)):Prop:=abEnv.agg i=some A/\abEnv.sz i=some S/\abEnv.zero i=some Z/\kx zL i=true/\dJ zL i=some false/\placesOf zL i=some P
theorem kTQ3{i:TypeId}{A:Bool}{S:Nat}{Z:List Value}{P:List (Nat×Nat)}(h:(abEnv.agg i,abEnv.sz i,abEnv.zero i,kx zL i,dJ zL i,placesOf zL i)=(some A,some S,some Z,true,some false,some P)):TQ3 i A S Z P:=by simpa only [Prod.mk.injEq]using h
abbrev TQ4(i:TypeId)(U:TypeDesc)(A:Bool)(S:Nat)(Z:List Value):Prop:=abEnv.und i=some U/\abEnv.agg i=some A/\abEnv.sz i=some S/\abEnv.zero i=some Z/\oX zL i=true/\kx zL i=true/\dJ zL i=some false
theorem kTQ4{i:TypeId}{U:TypeDesc}{A:Bool}{S:Nat}{Z:List Value}(h:(abEnv.und i,abEnv.agg i,abEnv.sz i,abEnv.zero i,oX zL i,kx zL i,dJ zL i)=(some U,some A,some S,some Z,true,true,some false)):TQ4 i U A S Z:=by simpa only [Prod.mk.injEq]using h
abbrev TQ5(i:TypeId)(A:Bool)(S:Nat)(Z:List Value):Prop:=abEnv.agg i=some A/\abEnv.sz i=some S/\abEnv.zero i=some Z/\isIface zL i=true/\dJ zL i=some false
theorem kTQ5{i:TypeId}{A:Bool}{S:Nat}{Z:List Value}(h:(abEnv.agg i,abEnv.sz i,abEnv.zero i,isIface zL i,dJ zL i)=(some A,some S,some Z,true,some false)):TQ5 i A S Z:=by simpa only [Prod.mk.injEq]using h
abbrev TQ6(i:TypeId)(U:TypeDesc)(A:Bool)(S:Nat)(Z:List Value):Prop:=abEnv.und i=some U/\abEnv.agg i=some A/\abEnv.sz i=some S/\abEnv.zero i=some Z/\isSl zL i=true/\dJ zL i=some false
theorem kTQ6{i:TypeId}{U:TypeDesc}{A:Bool}{S:Nat}{Z:List Value}(h:(abEnv.und i,abEnv.agg i,abEnv.sz i,abEnv.zero i,isSl zL i,dJ zL i)=(some U,some A,some S,some Z,true,some false)):TQ6 i U A S Z:=by simpa only [Prod.mk.injEq]using h
abbrev TQ7(i:TypeId)(A:Bool)(S:Nat)(Z:List Value):Prop:=abEnv.agg i=some A/\abEnv.sz i=some S/\abEnv.zero i=some Z/\kx zL i=true/\dJ zL i=some false
theorem kTQ7{i:TypeId}{A:Bool}{S:Nat}{Z:List Value}(h:(abEnv.agg i,abEnv.sz i,abEnv.zero i,kx zL i,dJ zL i)=(some A,some S,some Z,true,some false)):TQ7 i A S Z:=by simpa only [Prod.mk.injEq]using h
abbrev TR0(i:TypeId)(f o1 o2 o3:Nat):Prop:=(∀(b o:Nat) (s:Option Nat),aA zL i (.pointer (some ⟨b,o,s⟩)) 0=some (.pointer (some ⟨b,o+f,none⟩))/\aA zL i (.pointer (some ⟨b,o,s⟩)) 1=some (.pointer (some ⟨b,o+o1,none⟩))/\aA zL i (.pointer (some ⟨b,o,s⟩)) 2=some (.pointer (some ⟨b,o+o2,none⟩))/\aA zL i (.pointer (some ⟨b,o,s⟩)) 3=some (.pointer (some ⟨b,o+o3,none⟩)))/\ ∀a c d e:Value,aP zL i (.agg ⟨[a,c,d,e]⟩) 0=some a/\aP zL i (.agg ⟨[a,c,d,e]⟩) 1=some c/\aP zL i (.agg ⟨[a,c,d,e]⟩) 2=some d/\aP zL i (.agg ⟨[a,c,d,e]⟩) 3=some e
abbrev TR1(i:TypeId)(d o1:Nat):Prop:=(∀(b o:Nat) (s:Option Nat),aA zL i (.pointer (some ⟨b,o,s⟩)) 0=some (.pointer (some ⟨b,o+d,none⟩))/\aA zL i (.pointer (some ⟨b,o,s⟩)) 1=some (.pointer (some ⟨b,o+o1,none⟩)))/\ ∀a c:Value,aP zL i (.agg ⟨[a,c]⟩) 0=some a/\aP zL i (.agg ⟨[a,c]⟩) 1=some c
abbrev TR2(i:TypeId)(c:Nat):Prop:=(∀(b o:Nat) (s:Option Nat),aA zL i (.pointer (some ⟨b,o,s⟩)) 0=some (.pointer (some ⟨b,o+c,none⟩)))/\ ∀a:Value,aP zL i (.agg ⟨[a]⟩) 0=some a
abbrev TR3(i:TypeId)(k o1 o2 o3 l m n p:Nat):Prop:=(∀(b o:Nat) (s:Option Nat),aA zL i (.pointer (some ⟨b,o,s⟩)) 0=some (.pointer (some ⟨b,o+k,none⟩))/\aA zL i (.pointer (some ⟨b,o,s⟩)) 1=some (.pointer (some ⟨b,o+o1,none⟩))/\aA zL i (.pointer (some ⟨b,o,s⟩)) 2=some (.pointer (some ⟨b,o+o2,none⟩))/\aA zL i (.pointer (some ⟨b,o,s⟩)) 3=some (.pointer (some ⟨b,o+o3,none⟩))/\aA zL i (.pointer (some ⟨b,o,s⟩)) 4=some (.pointer (some ⟨b,o+l,none⟩))/\aA zL i (.pointer (some ⟨b,o,s⟩)) 5=some (.pointer (some ⟨b,o+m,none⟩))/\aA zL i (.pointer (some ⟨b,o,s⟩)) 6=some (.pointer (some ⟨b,o+n,none⟩))/\aA zL i (.pointer (some ⟨b,o,s⟩)) 7=some (.pointer (some ⟨b,o+p,none⟩)))/\ ∀a c d e f g h j:Value,aP zL i (.agg ⟨[a,c,d,e,f,g,h,j]⟩) 0=some a/\aP zL i (.agg ⟨[a,c,d,e,f,g,h,j]⟩) 1=some c/\aP zL i (.agg ⟨[a,c,d,e,f,g,h,j]⟩) 2=some d/\aP zL i (.agg ⟨[a,c,d,e,f,g,h,j]⟩) 3=some e/\aP zL i (.agg ⟨[a,c,d,e,f,g,h,j]⟩) 4=some f/\aP zL i (.agg ⟨[a,c,d,e,f,g,h,j]⟩) 5=some g/\aP zL i (.agg ⟨[a,c,d,e,f,g,h,j]⟩) 6=some h/\aP zL i (.agg ⟨[a,c,d,e,f,g,h,j]⟩) 7=some j
abbrev TR4(i:TypeId)(q o1 o2 o3 r t:Nat):Prop:=(∀(b o:Nat) (s:Option Nat),aA zL i (.pointer (some ⟨b,o,s⟩)) 0=some (.pointer (some ⟨b,o+q,none⟩))/\aA zL i (.pointer (some ⟨b,o,s⟩)) 1=some (.pointer (some ⟨b,o+o1,none⟩))/\aA zL i (.pointer (some ⟨b,o,s⟩)) 2=some (.pointer (some ⟨b,o+o2,none⟩))/\aA zL i (.pointer (some ⟨b,o,s⟩)) 3=some (.pointer (some ⟨b,o+o3,none⟩))/\aA zL i (.pointer (some ⟨b,o,s⟩)) 4=some (.pointer (some ⟨b,o+r,none⟩))/\aA zL i (.pointer (some ⟨b,o,s⟩)) 5=some (.pointer (some ⟨b,o+t,none⟩)))/\ ∀e f g h j k l m n p a c d:Value,aP zL i (.agg ⟨[e,f,g,h,j,k,l,m,n,p,a,c,d]⟩) 0=some (.agg ⟨[e,f,g,h]⟩)/\aP zL i (.agg ⟨[e,f,g,h,j,k,l,m,n,p,a,c,d]⟩) 1=some j/\aP zL i (.agg ⟨[e,f,g,h,j,k,l,m,n,p,a,c,d]⟩) 2=some k/\aP zL i (.agg ⟨[e,f,g,h,j,k,l,m,n,p,a,c,d]⟩) 3=some l/\aP zL i (.agg ⟨[e,f,g,h,j,k,l,m,n,p,a,c,d]⟩) 4=some (.agg ⟨[m,n]⟩)/\aP zL i (.agg ⟨[e,f,g,h,j,k,l,m,n,p,a,c,d]⟩) 5=some (.agg ⟨[p,a,c,d]⟩)
abbrev TR5(i:TypeId)(e o1 o2:Nat):Prop:=(∀(b o:Nat) (s:Option Nat),aA zL i (.pointer (some ⟨b,o,s⟩)) 0=some (.pointer (some ⟨b,o+e,none⟩))/\aA zL i (.pointer (some ⟨b,o,s⟩)) 1=some (.pointer (some ⟨b,o+o1,none⟩))/\aA zL i (.pointer (some ⟨b,o,s⟩)) 2=some (.pointer (some ⟨b,o+o2,none⟩)))/\ ∀a c d:Value,aP zL i (.agg ⟨[a,c,d]⟩) 0=some a/\aP zL i (.agg ⟨[a,c,d]⟩) 1=some c/\aP zL i (.agg ⟨[a,c,d]⟩) 2=some d
abbrev TR6(i:TypeId)(h o1 o2:Nat):Prop:=(∀(b o:Nat) (s:Option Nat),aA zL i (.pointer (some ⟨b,o,s⟩)) 0=some (.pointer (some ⟨b,o+h,none⟩))/\aA zL i (.pointer (some ⟨b,o,s⟩)) 1=some (.pointer (some ⟨b,o+o1,none⟩))/\aA zL i (.pointer (some ⟨b,o,s⟩)) 2=some (.pointer (some ⟨b,o+o2,none⟩)))/\ ∀a c d e f g:Value,aP zL i (.agg ⟨[a,c,d,e,f,g]⟩) 0=some (.agg ⟨[a,c,d,e]⟩)/\aP zL i (.agg ⟨[a,c,d,e,f,g]⟩) 1=some f/\aP zL i (.agg ⟨[a,c,d,e,f,g]⟩) 2=some g
abbrev TR7(i:TypeId)(p o1 o2 o3 q r t u v w n:Nat):Prop:=(∀(b o:Nat) (s:Option Nat),aA zL i (.pointer (some ⟨b,o,s⟩)) 0=some (.pointer (some ⟨b,o+p,none⟩))/\aA zL i (.pointer (some ⟨b,o,s⟩)) 1=some (.pointer (some ⟨b,o+o1,none⟩))/\aA zL i (.pointer (some ⟨b,o,s⟩)) 2=some (.pointer (some ⟨b,o+o2,none⟩))/\aA zL i (.pointer (some ⟨b,o,s⟩)) 3=some (.pointer (some ⟨b,o+o3,none⟩))/\aA zL i (.pointer (some ⟨b,o,s⟩)) 4=some (.pointer (some ⟨b,o+q,none⟩))/\aA zL i (.pointer (some ⟨b,o,s⟩)) 5=some (.pointer (some ⟨b,o+r,none⟩))/\aA zL i (.pointer (some ⟨b,o,s⟩)) 6=some (.pointer (some ⟨b,o+t,none⟩))/\aA zL i (.pointer (some ⟨b,o,s⟩)) 7=some (.pointer (some ⟨b,o+u,none⟩))/\aA zL i (.pointer (some ⟨b,o,s⟩)) 8=some (.pointer (some ⟨b,o+v,none⟩))/\aA zL i (.pointer (some ⟨b,o,s⟩)) 9=some (.pointer (some ⟨b,o+w,none⟩))/\aA zL i (.pointer (some ⟨b,o,s⟩)) 10=some (.pointer (some ⟨b,o+n,none⟩)))/\ ∀c d e f g h j k l m a:Value,aP zL i (.agg ⟨[c,d,e,f,g,h,j,k,l,m,a]⟩) 0=some c/\aP zL i (.agg ⟨[c,d,e,f,g,h,j,k,l,m,a]⟩) 1=some d/\aP zL i (.agg ⟨[c,d,e,f,g,h,j,k,l,m,a]⟩) 2=some e/\aP zL i (.agg ⟨[c,d,e,f,g,h,j,k,l,m,a]⟩) 3=some f/\aP zL i (.agg ⟨[c,d,e,f,g,h,j,k,l,m,a]⟩) 4=some g/\aP zL i (.agg ⟨[c,d,e,f,g,h,j,k,l,m,a]⟩) 5=some h/\aP zL i (.agg ⟨[c,d,e,f,g,h,j,k,l,m,a]⟩) 6=some j/\aP zL i (.agg ⟨[c,d,e,f,g,h,j,k,l,m,a]⟩) 7=some k/\aP zL i (.agg ⟨[c,d,e,f,g,h,j,k,l,m,a]⟩) 8=some l/\aP zL i (.agg ⟨[c,d,e,f,g,h,j,k,l,m,a]⟩) 9=some m/\aP zL i (.agg ⟨[c,d,e,f,g,h,j,k,l,m,a]⟩) 10=some a
abbrev TR8(i:TypeId)(k o1 o2 o3:Nat):Prop:=(∀(b o:Nat) (s:Option Nat),aA zL i (.pointer (some ⟨b,o,s⟩)) 0=some (.pointer (some ⟨b,o+k,none⟩))/\aA zL i (.pointer (some ⟨b,o,s⟩)) 1=some (.pointer (some ⟨b,o+o1,none⟩))/\aA zL i (.pointer (some ⟨b,o,s⟩)) 2=some (.pointer (some ⟨b,o+o2,none⟩))/\aA zL i (.pointer (some ⟨b,o,s⟩)) 3=some (.pointer (some ⟨b,o+o3,none⟩)))/\ ∀a c d e f g h j:Value,aP zL i (.agg ⟨[a,c,d,e,f,g,h,j]⟩) 0=some (.agg ⟨[a,c]⟩)/\aP zL i (.agg ⟨[a,c,d,e,f,g,h,j]⟩) 1=some d/\aP zL i (.agg ⟨[a,c,d,e,f,g,h,j]⟩) 2=some e/\aP zL i (.agg ⟨[a,c,d,e,f,g,h,j]⟩) 3=some (.agg ⟨[f,g,h,j]⟩)
abbrev TR9(i:TypeId)(e o1:Nat):Prop:=(∀(b o:Nat) (s:Option Nat),aA zL i (.pointer (some ⟨b,o,s⟩)) 0=some (.pointer (some ⟨b,o+e,none⟩))/\aA zL i (.pointer (some ⟨b,o,s⟩)) 1=some (.pointer (some ⟨b,o+o1,none⟩)))/\ ∀a c d:Value,aP zL i (.agg ⟨[a,c,d]⟩) 0=some (.agg ⟨[a,c]⟩)/\aP zL i (.agg ⟨[a,c,d]⟩) 1=some d
abbrev TR10(i:TypeId)(g o1 o2:Nat):Prop:=(∀(b o:Nat) (s:Option Nat),aA zL i (.pointer (some ⟨b,o,s⟩)) 0=some (.pointer (some ⟨b,o+g,none⟩))/\aA zL i (.pointer (some ⟨b,o,s⟩)) 1=some (.pointer (some ⟨b,o+o1,none⟩))/\aA zL i (.pointer (some ⟨b,o,s⟩)) 2=some (.pointer (some ⟨b,o+o2,none⟩)))/\ ∀a c d e f:Value,aP zL i (.agg ⟨[a,c,d,e,f]⟩) 0=some a/\aP zL i (.agg ⟨[a,c,d,e,f]⟩) 1=some (.agg ⟨[c,d,e]⟩)/\aP zL i (.agg ⟨[a,c,d,e,f]⟩) 2=some f
abbrev TR11(i:TypeId)(h o1 o2 o3 j k:Nat):Prop:=(∀(b o:Nat) (s:Option Nat),aA zL i (.pointer (some ⟨b,o,s⟩)) 0=some (.pointer (some ⟨b,o+h,none⟩))/\aA zL i (.pointer (some ⟨b,o,s⟩)) 1=some (.pointer (some ⟨b,o+o1,none⟩))/\aA zL i (.pointer (some ⟨b,o,s⟩)) 2=some (.pointer (some ⟨b,o+o2,none⟩))/\aA zL i (.pointer (some ⟨b,o,s⟩)) 3=some (.pointer (some ⟨b,o+o3,none⟩))/\aA zL i (.pointer (some ⟨b,o,s⟩)) 4=some (.pointer (some ⟨b,o+j,none⟩))/\aA zL i (.pointer (some ⟨b,o,s⟩)) 5=some (.pointer (some ⟨b,o+k,none⟩)))/\ ∀a c d e f g:Value,aP zL i (.agg ⟨[a,c,d,e,f,g]⟩) 0=some a/\aP zL i (.agg ⟨[a,c,d,e,f,g]⟩) 1=some c/\aP zL i (.agg ⟨[a,c,d,e,f,g]⟩) 2=some d/\aP zL i (.agg ⟨[a,c,d,e,f,g]⟩) 3=some e/\aP zL i (.agg ⟨[a,c,d,e,f,g]⟩) 4=some f/\aP zL i (.agg ⟨[a,c,d,e,f,g]⟩) 5=some g
theorem t1:TQ0 1 false 1 [.nilFunc]:=kTQ0 (by kernel_rfl)
theorem t2:TQ1 2 (.int .i64) false 1 [.int .i64 0]:=kTQ1 (by kernel_rfl)
theorem e2E:dZ zL 2 8 1 [.int .i64 0]:=⟨⟨_,rfl,by kernel_rfl,by kernel_rfl⟩,t2.2.2.2.1,rfl⟩
theorem t3:TQ1 3 (.int .i64) false 1 [.int .i64 0]:=kTQ1 (by kernel_rfl)
theorem e3E:dZ zL 3 8 1 [.int .i64 0]:=⟨⟨_,rfl,by kernel_rfl,by kernel_rfl⟩,t3.2.2.2.1,rfl⟩
theorem t4:TQ2 4 .bool false 1 [.bool false]:=kTQ2 (by kernel_rfl)
theorem e4E:dZ zL 4 1 1 [.bool false]:=⟨⟨_,rfl,by kernel_rfl,by kernel_rfl⟩,t4.2.2.2.1,rfl⟩
theorem t5:TQ1 5 (.int .u8) false 1 [.int .u8 0]:=kTQ1 (by kernel_rfl)
theorem e5E:dZ zL 5 1 1 [.int .u8 0]:=⟨⟨_,rfl,by kernel_rfl,by kernel_rfl⟩,t5.2.2.2.1,rfl⟩
theorem t6:TQ1 6 (.int .u8) false 1 [.int .u8 0]:=kTQ1 (by kernel_rfl)
theorem t7:TQ3 7 true 4 [.int .i64 0,.int .i64 0,.bool false,.int .u8 0] [(0,1),(1,1),(2,1),(3,1)]:=kTQ3 (by kernel_rfl)
theorem r7:TR0 7 0 1 2 3:=⟨fun _ _ _=>⟨rfl,rfl,rfl,rfl⟩,fun _ _ _ _=>⟨rfl,rfl,rfl,rfl⟩⟩
theorem t8:TQ3 8 true 4 [.int .i64 0,.int .i64 0,.bool false,.int .u8 0] [(0,1),(1,1),(2,1),(3,1)]:=kTQ3 (by kernel_rfl)
theorem r8:TR0 8 0 1 2 3:=⟨fun _ _ _=>⟨rfl,rfl,rfl,rfl⟩,fun _ _ _ _=>⟨rfl,rfl,rfl,rfl⟩⟩
theorem t9:TQ2 9 .string false 1 [.string ⟨#[]⟩]:=kTQ2 (by kernel_rfl)
theorem t10:TQ2 10 .string false 1 [.string ⟨#[]⟩]:=kTQ2 (by kernel_rfl)
theorem t11:TQ2 11 .string false 1 [.string ⟨#[]⟩]:=kTQ2 (by kernel_rfl)
theorem t12:TQ1 12 (.int .u64) false 1 [.int .u64 0]:=kTQ1 (by kernel_rfl)
theorem t13:TQ3 13 true 2 [.string ⟨#[]⟩,.int .u64 0] [(0,1),(1,1)]:=kTQ3 (by kernel_rfl)
theorem r13:TR1 13 0 1:=⟨fun _ _ _=>⟨rfl,rfl⟩,fun _ _=>⟨rfl,rfl⟩⟩
theorem t14:TQ3 14 true 2 [.string ⟨#[]⟩,.int .u64 0] [(0,1),(1,1)]:=kTQ3 (by kernel_rfl)
theorem r14:TR1 14 0 1:=⟨fun _ _ _=>⟨rfl,rfl⟩,fun _ _=>⟨rfl,rfl⟩⟩
theorem t15:TQ4 15 (.pointer 299) false 1 [.pointer none]:=kTQ4 (by kernel_rfl)
theorem t16:TQ4 16 (.pointer 302) false 1 [.pointer none]:=kTQ4 (by kernel_rfl)
theorem t17:TQ4 17 (.pointer 309) false 1 [.pointer none]:=kTQ4 (by kernel_rfl)
theorem t18:TQ3 18 true 1 [.pointer none] [(0,1)]:=kTQ3 (by kernel_rfl)
theorem r18:TR2 18 0:=⟨fun _ _ _=>rfl,fun _=>rfl⟩
theorem t19:TQ3 19 true 1 [.pointer none] [(0,1)]:=kTQ3 (by kernel_rfl)
theorem r19:TR2 19 0:=⟨fun _ _ _=>rfl,fun _=>rfl⟩
theorem t20:TQ5 20 false 1 [.nilIface]:=kTQ5 (by kernel_rfl)
theorem t21:TQ1 21 (.int .i32) false 1 [.int .i32 0]:=kTQ1 (by kernel_rfl)
theorem t22:TQ6 22 (.slice 5) false 1 [.slice none 0 0]:=kTQ6 (by kernel_rfl)
theorem t23:TQ1 23 (.int .i8) false 1 [.int .i8 0]:=kTQ1 (by kernel_rfl)
theorem t24:TQ6 24 (.slice 4) false 1 [.slice none 0 0]:=kTQ6 (by kernel_rfl)
theorem t25:TQ3 25 true 8 [.slice none 0 0,.slice none 0 0,.slice none 0 0,.int .u8 0,.int .u8 0,.int .i8 0,.bool false,.slice none 0 0] [(0,1),(1,1),(2,1),(3,1),(4,1),(5,1),(6,1),(7,1)]:=kTQ3 (by kernel_rfl)
theorem r25:TR3 25 0 1 2 3 4 5 6 7:=⟨fun _ _ _=>⟨rfl,rfl,rfl,rfl,rfl,rfl,rfl,rfl⟩,fun _ _ _ _ _ _ _ _=>⟨rfl,rfl,rfl,rfl,rfl,rfl,rfl,rfl⟩⟩
theorem t26:TQ3 26 true 8 [.slice none 0 0,.slice none 0 0,.slice none 0 0,.int .u8 0,.int .u8 0,.int .i8 0,.bool false,.slice none 0 0] [(0,1),(1,1),(2,1),(3,1),(4,1),(5,1),(6,1),(7,1)]:=kTQ3 (by kernel_rfl)
theorem r26:TR3 26 0 1 2 3 4 5 6 7:=⟨fun _ _ _=>⟨rfl,rfl,rfl,rfl,rfl,rfl,rfl,rfl⟩,fun _ _ _ _ _ _ _ _=>⟨rfl,rfl,rfl,rfl,rfl,rfl,rfl,rfl⟩⟩
theorem t27:TQ0 27 false 1 [.nilFunc]:=kTQ0 (by kernel_rfl)
theorem t28:TQ6 28 (.slice 2) false 1 [.slice none 0 0]:=kTQ6 (by kernel_rfl)
theorem e28E:dZ zL 28 24 1 [.slice none 0 0]:=⟨⟨_,rfl,by kernel_rfl,by kernel_rfl⟩,t28.2.2.2.1,rfl⟩
theorem t29:TQ6 29 (.slice 108) false 1 [.slice none 0 0]:=kTQ6 (by kernel_rfl)
theorem t30:TQ3 30 true 4 [.int .i64 0,.slice none 0 0,.slice none 0 0,.slice none 0 0] [(0,1),(1,1),(2,1),(3,1)]:=kTQ3 (by kernel_rfl)
theorem r30:TR0 30 0 1 2 3:=⟨fun _ _ _=>⟨rfl,rfl,rfl,rfl⟩,fun _ _ _ _=>⟨rfl,rfl,rfl,rfl⟩⟩
theorem t31:TQ3 31 true 4 [.int .i64 0,.slice none 0 0,.slice none 0 0,.slice none 0 0] [(0,1),(1,1),(2,1),(3,1)]:=kTQ3 (by kernel_rfl)
theorem r31:TR0 31 0 1 2 3:=⟨fun _ _ _=>⟨rfl,rfl,rfl,rfl⟩,fun _ _ _ _=>⟨rfl,rfl,rfl,rfl⟩⟩
theorem t32:TQ4 32 (.pointer 166) false 1 [.pointer none]:=kTQ4 (by kernel_rfl)
theorem t33:TQ4 33 (.pointer 117) false 1 [.pointer none]:=kTQ4 (by kernel_rfl)
theorem t34:TQ6 34 (.slice 3) false 1 [.slice none 0 0]:=kTQ6 (by kernel_rfl)
theorem e34E:dZ zL 34 24 1 [.slice none 0 0]:=⟨⟨_,rfl,by kernel_rfl,by kernel_rfl⟩,t34.2.2.2.1,rfl⟩
theorem t35:TQ4 35 (.pointer 98) false 1 [.pointer none]:=kTQ4 (by kernel_rfl)
theorem t36:TQ4 36 (.pointer 135) false 1 [.pointer none]:=kTQ4 (by kernel_rfl)
theorem t38:TQ3 38 true 2 [.pointer none,.pointer none] [(0,1),(1,1)]:=kTQ3 (by kernel_rfl)
theorem r38:TR1 38 0 1:=⟨fun _ _ _=>⟨rfl,rfl⟩,fun _ _=>⟨rfl,rfl⟩⟩
theorem t40:TQ3 40 true 4 [.int .i64 0,.int .i64 0,.int .i64 0,.int .i64 0] [(0,1),(1,1),(2,1),(3,1)]:=kTQ3 (by kernel_rfl)
theorem r40:TR0 40 0 1 2 3:=⟨fun _ _ _=>⟨rfl,rfl,rfl,rfl⟩,fun _ _ _ _=>⟨rfl,rfl,rfl,rfl⟩⟩
theorem t42:TQ3 42 true 13 [.int .i64 0,.slice none 0 0,.slice none 0 0,.slice none 0 0,.pointer none,.pointer none,.slice none 0 0,.pointer none,.pointer none,.int .i64 0,.int .i64 0,.int .i64 0,.int .i64 0] [(0,4),(4,1),(5,1),(6,1),(7,2),(9,4)]:=kTQ3 (by kernel_rfl)
theorem r42:TR4 42 0 4 5 6 7 9:=⟨fun _ _ _=>⟨rfl,rfl,rfl,rfl,rfl,rfl⟩,fun _ _ _ _ _ _ _ _ _ _ _ _ _=>⟨rfl,rfl,rfl,rfl,rfl,rfl⟩⟩
theorem t46:TQ2 46 (.array 2 38) true 4 [.pointer none,.pointer none,.pointer none,.pointer none]:=kTQ2 (by kernel_rfl)
theorem t47:TQ1 47 (.int .i64) false 1 [.int .i64 0]:=kTQ1 (by kernel_rfl)
theorem t49:TQ3 49 true 4 [.int .i64 0,.int .i64 0,.slice none 0 0,.slice none 0 0] [(0,1),(1,1),(2,1),(3,1)]:=kTQ3 (by kernel_rfl)
theorem r49:TR0 49 0 1 2 3:=⟨fun _ _ _=>⟨rfl,rfl,rfl,rfl⟩,fun _ _ _ _=>⟨rfl,rfl,rfl,rfl⟩⟩
theorem t50:TQ6 50 (.slice 57) false 1 [.slice none 0 0]:=kTQ6 (by kernel_rfl)
theorem t57:TQ3 57 true 4 [.int .i64 0,.int .i64 0,.int .i64 0,.int .i64 0] [(0,1),(1,1),(2,1),(3,1)]:=kTQ3 (by kernel_rfl)
theorem r57:TR0 57 0 1 2 3:=⟨fun _ _ _=>⟨rfl,rfl,rfl,rfl⟩,fun _ _ _ _=>⟨rfl,rfl,rfl,rfl⟩⟩
theorem e57E:dZ zL 57 32 4 [.int .i64 0,.int .i64 0,.int .i64 0,.int .i64 0]:=⟨⟨_,rfl,by kernel_rfl,by kernel_rfl⟩,t57.2.2.1,rfl⟩
theorem t98:TQ3 98 true 2 [.slice none 0 0,.int .i64 0] [(0,1),(1,1)]:=kTQ3 (by kernel_rfl)
theorem r98:TR1 98 0 1:=⟨fun _ _ _=>⟨rfl,rfl⟩,fun _ _=>⟨rfl,rfl⟩⟩
theorem t100:TQ4 100 (.pointer 5) false 1 [.pointer none]:=kTQ4 (by kernel_rfl)
theorem t108:TQ3 108 true 3 [.int .i64 0,.int .i64 0,.int .i64 0] [(0,1),(1,1),(2,1)]:=kTQ3 (by kernel_rfl)
theorem r108:TR5 108 0 1 2:=⟨fun _ _ _=>⟨rfl,rfl,rfl⟩,fun _ _ _=>⟨rfl,rfl,rfl⟩⟩
theorem e108E:dZ zL 108 24 3 [.int .i64 0,.int .i64 0,.int .i64 0]:=⟨⟨_,rfl,by kernel_rfl,by kernel_rfl⟩,t108.2.2.1,rfl⟩
theorem t110:TQ6 110 (.slice 28) false 1 [.slice none 0 0]:=kTQ6 (by kernel_rfl)
theorem t117:TQ3 117 true 4 [.int .i64 0,.slice none 0 0,.slice none 0 0,.slice none 0 0] [(0,1),(1,1),(2,1),(3,1)]:=kTQ3 (by kernel_rfl)
theorem r117:TR0 117 0 1 2 3:=⟨fun _ _ _=>⟨rfl,rfl,rfl,rfl⟩,fun _ _ _ _=>⟨rfl,rfl,rfl,rfl⟩⟩
theorem t135:TQ3 135 true 4 [.int .i64 0,.int .i64 0,.int .i64 0,.slice none 0 0] [(0,1),(1,1),(2,1),(3,1)]:=kTQ3 (by kernel_rfl)
theorem r135:TR0 135 0 1 2 3:=⟨fun _ _ _=>⟨rfl,rfl,rfl,rfl⟩,fun _ _ _ _=>⟨rfl,rfl,rfl,rfl⟩⟩
theorem t164:TQ6 164 (.slice 34) false 1 [.slice none 0 0]:=kTQ6 (by kernel_rfl)
theorem t166:TQ3 166 true 6 [.int .i64 0,.slice none 0 0,.slice none 0 0,.slice none 0 0,.slice none 0 0,.slice none 0 0] [(0,4),(4,1),(5,1)]:=kTQ3 (by kernel_rfl)
theorem r166:TR6 166 0 4 5:=⟨fun _ _ _=>⟨rfl,rfl,rfl⟩,fun _ _ _ _ _ _=>⟨rfl,rfl,rfl⟩⟩
theorem t242:TQ1 242 (.int .u8) false 1 [.int .u8 0]:=kTQ1 (by kernel_rfl)
theorem t288:TQ1 288 (.int .u32) false 1 [.int .u32 0]:=kTQ1 (by kernel_rfl)
theorem t299:TQ3 299 true 4 [.pointer none,.pointer none,.pointer none,.string ⟨#[]⟩] [(0,1),(1,1),(2,1),(3,1)]:=kTQ3 (by kernel_rfl)
theorem r299:TR0 299 0 1 2 3:=⟨fun _ _ _=>⟨rfl,rfl,rfl,rfl⟩,fun _ _ _ _=>⟨rfl,rfl,rfl,rfl⟩⟩
theorem t300:TQ2 300 (.array 0 16) true 0 []:=kTQ2 (by kernel_rfl)
theorem t302:TQ7 302 true 0 []:=kTQ7 (by kernel_rfl)
theorem t304:TQ1 304 (.int .u8) false 1 [.int .u8 0]:=kTQ1 (by kernel_rfl)
theorem t305:TQ0 305 false 1 [.nilFunc]:=kTQ0 (by kernel_rfl)
theorem t306:TQ1 306 (.int .i32) false 1 [.int .i32 0]:=kTQ1 (by kernel_rfl)
theorem t307:TQ1 307 (.int .i32) false 1 [.int .i32 0]:=kTQ1 (by kernel_rfl)
theorem t309:TQ3 309 true 11 [.int .u64 0,.int .u64 0,.int .u32 0,.int .u8 0,.int .u8 0,.int .u8 0,.int .u8 0,.nilFunc,.pointer none,.int .i32 0,.int .i32 0] [(0,1),(1,1),(2,1),(3,1),(4,1),(5,1),(6,1),(7,1),(8,1),(9,1),(10,1)]:=kTQ3 (by kernel_rfl)
theorem r309:TR7 309 0 1 2 3 4 5 6 7 8 9 10:=⟨fun _ _ _=>⟨rfl,rfl,rfl,rfl,rfl,rfl,rfl,rfl,rfl,rfl,rfl⟩,fun _ _ _ _ _ _ _ _ _ _ _=>⟨rfl,rfl,rfl,rfl,rfl,rfl,rfl,rfl,rfl,rfl,rfl⟩⟩
theorem e3:abEnv.fn 3=some Tryz.f3:=by kernel_rfl
theorem t65:TQ4 65 (.pointer 67) false 1 [.pointer none]:=kTQ4 (by kernel_rfl)
theorem t67:TQ3 67 true 2 [.slice none 0 0,.int .i64 0] [(0,1),(1,1)]:=kTQ3 (by kernel_rfl)
theorem r67:TR1 67 0 1:=⟨fun _ _ _=>⟨rfl,rfl⟩,fun _ _=>⟨rfl,rfl⟩⟩
theorem t70:TQ5 70 false 1 [.nilIface]:=kTQ5 (by kernel_rfl)
theorem e5:abEnv.fn 5=some Tryz.f5:=by kernel_rfl
theorem e6:abEnv.fn 6=some Tryz.f6:=by kernel_rfl
theorem t79:TQ4 79 (.pointer 81) false 1 [.pointer none]:=kTQ4 (by kernel_rfl)
theorem t81:TQ3 81 true 8 [.pointer none,.pointer none,.pointer none,.pointer none,.int .i64 0,.int .i64 0,.int .i64 0,.int .i64 0] [(0,2),(2,1),(3,1),(4,4)]:=kTQ3 (by kernel_rfl)
theorem r81:TR8 81 0 2 3 4:=⟨fun _ _ _=>⟨rfl,rfl,rfl,rfl⟩,fun _ _ _ _ _ _ _ _=>⟨rfl,rfl,rfl,rfl⟩⟩
theorem t83:TQ0 83 false 1 [.nilFunc]:=kTQ0 (by kernel_rfl)
theorem t86:TQ0 86 false 1 [.nilFunc]:=kTQ0 (by kernel_rfl)
theorem t87:TQ2 87 (.map 3 86) false 1 [.map none]:=kTQ2 (by kernel_rfl)
theorem t89:TQ3 89 true 3 [.int .i64 0,.slice none 0 0,.slice none 0 0] [(0,1),(1,1),(2,1)]:=kTQ3 (by kernel_rfl)
theorem r89:TR5 89 0 1 2:=⟨fun _ _ _=>⟨rfl,rfl,rfl⟩,fun _ _ _=>⟨rfl,rfl,rfl⟩⟩
theorem t94:TQ3 94 true 4 [.int .i64 0,.int .i64 0,.slice none 0 0,.slice none 0 0] [(0,1),(1,1),(2,1),(3,1)]:=kTQ3 (by kernel_rfl)
theorem r94:TR0 94 0 1 2 3:=⟨fun _ _ _=>⟨rfl,rfl,rfl,rfl⟩,fun _ _ _ _=>⟨rfl,rfl,rfl,rfl⟩⟩
theorem e7:abEnv.fn 7=some Tryz.f7:=by kernel_rfl
theorem e8:abEnv.fn 8=some Tryz.f8:=by kernel_rfl
theorem e9:abEnv.fn 9=some Tryz.f9:=by kernel_rfl
theorem e10:abEnv.fn 10=some Tryz.f10:=by kernel_rfl
theorem t101:TQ0 101 false 1 [.nilFunc]:=kTQ0 (by kernel_rfl)
theorem e11:abEnv.fn 11=some Tryz.f11:=by kernel_rfl
theorem t106:TQ0 106 false 1 [.nilFunc]:=kTQ0 (by kernel_rfl)
theorem e12:abEnv.fn 12=some Tryz.f12:=by kernel_rfl
theorem e13:abEnv.fn 13=some Tryz.f13:=by kernel_rfl
theorem t113:TQ0 113 false 1 [.nilFunc]:=kTQ0 (by kernel_rfl)
theorem t115:TQ0 115 false 1 [.nilFunc]:=kTQ0 (by kernel_rfl)
theorem e15:abEnv.fn 15=some Tryz.f15:=by kernel_rfl
theorem e16:abEnv.fn 16=some Tryz.f16:=by kernel_rfl
theorem t121:TQ3 121 true 4 [.int .i64 0,.int .i64 0,.int .i64 0,.int .i64 0] [(0,1),(1,1),(2,1),(3,1)]:=kTQ3 (by kernel_rfl)
theorem r121:TR0 121 0 1 2 3:=⟨fun _ _ _=>⟨rfl,rfl,rfl,rfl⟩,fun _ _ _ _=>⟨rfl,rfl,rfl,rfl⟩⟩
theorem t123:TQ4 123 (.pointer 121) false 1 [.pointer none]:=kTQ4 (by kernel_rfl)
theorem t125:TQ3 125 true 1 [.pointer none] [(0,1)]:=kTQ3 (by kernel_rfl)
theorem r125:TR2 125 0:=⟨fun _ _ _=>rfl,fun _=>rfl⟩
theorem e17:abEnv.fn 17=some Tryz.f17:=by kernel_rfl
theorem e18:abEnv.fn 18=some Tryz.f18:=by kernel_rfl
theorem e19:abEnv.fn 19=some Tryz.f19:=by kernel_rfl
theorem t132:TQ0 132 false 1 [.nilFunc]:=kTQ0 (by kernel_rfl)
theorem e20:abEnv.fn 20=some Tryz.f20:=by kernel_rfl
theorem e21:abEnv.fn 21=some Tryz.f21:=by kernel_rfl
theorem e22:abEnv.fn 22=some Tryz.f22:=by kernel_rfl
theorem e23:abEnv.fn 23=some Tryz.f23:=by kernel_rfl
theorem e24:abEnv.fn 24=some Tryz.f24:=by kernel_rfl
theorem e25:abEnv.fn 25=some Tryz.f25:=by kernel_rfl
theorem e26:abEnv.fn 26=some Tryz.f26:=by kernel_rfl
theorem t137:TQ0 137 false 1 [.nilFunc]:=kTQ0 (by kernel_rfl)
theorem t141:TQ4 141 (.pointer 197) false 1 [.pointer none]:=kTQ4 (by kernel_rfl)
theorem t193:TQ0 193 false 1 [.nilFunc]:=kTQ0 (by kernel_rfl)
theorem t194:TQ4 194 (.pointer 254) false 1 [.pointer none]:=kTQ4 (by kernel_rfl)
theorem t197:TQ3 197 true 8 [.pointer none,.pointer none,.slice none 0 0,.slice none 0 0,.slice none 0 0,.nilFunc,.nilFunc,.slice none 0 0] [(0,1),(1,1),(2,1),(3,1),(4,1),(5,1),(6,1),(7,1)]:=kTQ3 (by kernel_rfl)
theorem r197:TR3 197 0 1 2 3 4 5 6 7:=⟨fun _ _ _=>⟨rfl,rfl,rfl,rfl,rfl,rfl,rfl,rfl⟩,fun _ _ _ _ _ _ _ _=>⟨rfl,rfl,rfl,rfl,rfl,rfl,rfl,rfl⟩⟩
theorem e27:abEnv.fn 27=some Tryz.f27:=by kernel_rfl
theorem e28:abEnv.fn 28=some Tryz.f28:=by kernel_rfl
theorem t145:TQ0 145 false 1 [.nilFunc]:=kTQ0 (by kernel_rfl)
theorem t147:TQ2 147 (.map 149 3) false 1 [.map none]:=kTQ2 (by kernel_rfl)
theorem t149:TQ2 149 (.array 3 3) true 3 [.int .i64 0,.int .i64 0,.int .i64 0]:=kTQ2 (by kernel_rfl)
theorem e29:abEnv.fn 29=some Tryz.f29:=by kernel_rfl
theorem t150:TQ2 150 (.array 2 3) true 2 [.int .i64 0,.int .i64 0]:=kTQ2 (by kernel_rfl)
theorem e30:abEnv.fn 30=some Tryz.f30:=by kernel_rfl
theorem t154:TQ0 154 false 1 [.nilFunc]:=kTQ0 (by kernel_rfl)
theorem e31:abEnv.fn 31=some Tryz.f31:=by kernel_rfl
theorem e32:abEnv.fn 32=some Tryz.f32:=by kernel_rfl
theorem e33:abEnv.fn 33=some Tryz.f33:=by kernel_rfl
theorem e34:abEnv.fn 34=some Tryz.f34:=by kernel_rfl
theorem e35:abEnv.fn 35=some Tryz.f35:=by kernel_rfl
theorem e36:abEnv.fn 36=some Tryz.f36:=by kernel_rfl
theorem e37:abEnv.fn 37=some Tryz.f37:=by kernel_rfl
theorem t160:TQ0 160 false 1 [.nilFunc]:=kTQ0 (by kernel_rfl)
theorem t161:TQ0 161 false 1 [.nilFunc]:=kTQ0 (by kernel_rfl)
theorem e38:abEnv.fn 38=some Tryz.f38:=by kernel_rfl
theorem t162:TQ2 162 (.map 3 3) false 1 [.map none]:=kTQ2 (by kernel_rfl)
theorem e39:abEnv.fn 39=some Tryz.f39:=by kernel_rfl
theorem e40:abEnv.fn 40=some Tryz.f40:=by kernel_rfl
theorem e41:abEnv.fn 41=some Tryz.f41:=by kernel_rfl
theorem e42:abEnv.fn 42=some Tryz.f42:=by kernel_rfl
theorem e43:abEnv.fn 43=some Tryz.f43:=by kernel_rfl
theorem t144:TQ0 144 false 1 [.nilFunc]:=kTQ0 (by kernel_rfl)
theorem t170:TQ3 170 true 3 [.slice none 0 0,.slice none 0 0,.slice none 0 0] [(0,1),(1,1),(2,1)]:=kTQ3 (by kernel_rfl)
theorem r170:TR5 170 0 1 2:=⟨fun _ _ _=>⟨rfl,rfl,rfl⟩,fun _ _ _=>⟨rfl,rfl,rfl⟩⟩
theorem t172:TQ0 172 false 1 [.nilFunc]:=kTQ0 (by kernel_rfl)
theorem e44:abEnv.fn 44=some Tryz.f44:=by kernel_rfl
theorem e45:abEnv.fn 45=some Tryz.f45:=by kernel_rfl
theorem e46:abEnv.fn 46=some Tryz.f46:=by kernel_rfl
theorem e47:abEnv.fn 47=some Tryz.f47:=by kernel_rfl
theorem e48:abEnv.fn 48=some Tryz.f48:=by kernel_rfl
theorem t179:TQ0 179 false 1 [.nilFunc]:=kTQ0 (by kernel_rfl)
theorem e50:abEnv.fn 50=some Tryz.f50:=by kernel_rfl
theorem e51:abEnv.fn 51=some Tryz.f51:=by kernel_rfl
theorem e52:abEnv.fn 52=some Tryz.f52:=by kernel_rfl
theorem t55:TQ0 55 false 1 [.nilFunc]:=kTQ0 (by kernel_rfl)
theorem e53:abEnv.fn 53=some Tryz.f53:=by kernel_rfl
theorem e54:abEnv.fn 54=some Tryz.f54:=by kernel_rfl
theorem e55:abEnv.fn 55=some Tryz.f55:=by kernel_rfl
theorem e56:abEnv.fn 56=some Tryz.f56:=by kernel_rfl
theorem e57:abEnv.fn 57=some Tryz.f57:=by kernel_rfl
theorem e58:abEnv.fn 58=some Tryz.f58:=by kernel_rfl
theorem t136:TQ0 136 false 1 [.nilFunc]:=kTQ0 (by kernel_rfl)
theorem e59:abEnv.fn 59=some Tryz.f59:=by kernel_rfl
theorem e60:abEnv.fn 60=some Tryz.f60:=by kernel_rfl
theorem e61:abEnv.fn 61=some Tryz.f61:=by kernel_rfl
theorem e62:abEnv.fn 62=some Tryz.f62:=by kernel_rfl
theorem e63:abEnv.fn 63=some Tryz.f63:=by kernel_rfl
theorem e64:abEnv.fn 64=some Tryz.f64:=by kernel_rfl
theorem e65:abEnv.fn 65=some Tryz.f65:=by kernel_rfl
theorem t190:TQ0 190 false 1 [.nilFunc]:=kTQ0 (by kernel_rfl)
theorem e66:abEnv.fn 66=some Tryz.f66:=by kernel_rfl
theorem e67:abEnv.fn 67=some Tryz.f67:=by kernel_rfl
theorem e68:abEnv.fn 68=some Tryz.f68:=by kernel_rfl
theorem e69:abEnv.fn 69=some Tryz.f69:=by kernel_rfl
theorem t252:TQ3 252 true 2 [.slice none 0 0,.map none] [(0,1),(1,1)]:=kTQ3 (by kernel_rfl)
theorem r252:TR1 252 0 1:=⟨fun _ _ _=>⟨rfl,rfl⟩,fun _ _=>⟨rfl,rfl⟩⟩
theorem t254:TQ3 254 true 3 [.slice none 0 0,.map none,.int .i64 0] [(0,2),(2,1)]:=kTQ3 (by kernel_rfl)
theorem r254:TR9 254 0 2:=⟨fun _ _ _=>⟨rfl,rfl⟩,fun _ _ _=>⟨rfl,rfl⟩⟩
theorem e70:abEnv.fn 70=some Tryz.f70:=by kernel_rfl
theorem e71:abEnv.fn 71=some Tryz.f71:=by kernel_rfl
theorem e72:abEnv.fn 72=some Tryz.f72:=by kernel_rfl
theorem e73:abEnv.fn 73=some Tryz.f73:=by kernel_rfl
theorem e74:abEnv.fn 74=some Tryz.f74:=by kernel_rfl
theorem e75:abEnv.fn 75=some Tryz.f75:=by kernel_rfl
theorem e76:abEnv.fn 76=some Tryz.f76:=by kernel_rfl
theorem e77:abEnv.fn 77=some Tryz.f77:=by kernel_rfl
theorem e78:abEnv.fn 78=some Tryz.f78:=by kernel_rfl
theorem e79:abEnv.fn 79=some Tryz.f79:=by kernel_rfl
theorem e80:abEnv.fn 80=some Tryz.f80:=by kernel_rfl
theorem e81:abEnv.fn 81=some Tryz.f81:=by kernel_rfl
theorem e82:abEnv.fn 82=some Tryz.f82:=by kernel_rfl
theorem e83:abEnv.fn 83=some Tryz.f83:=by kernel_rfl
theorem e84:abEnv.fn 84=some Tryz.f84:=by kernel_rfl
theorem e85:abEnv.fn 85=some Tryz.f85:=by kernel_rfl
theorem t212:TQ0 212 false 1 [.nilFunc]:=kTQ0 (by kernel_rfl)
theorem e86:abEnv.fn 86=some Tryz.f86:=by kernel_rfl
theorem e87:abEnv.fn 87=some Tryz.f87:=by kernel_rfl
theorem e88:abEnv.fn 88=some Tryz.f88:=by kernel_rfl
theorem e89:abEnv.fn 89=some Tryz.f89:=by kernel_rfl
theorem e90:abEnv.fn 90=some Tryz.f90:=by kernel_rfl
theorem e91:abEnv.fn 91=some Tryz.f91:=by kernel_rfl
theorem e92:abEnv.fn 92=some Tryz.f92:=by kernel_rfl
theorem t168:TQ0 168 false 1 [.nilFunc]:=kTQ0 (by kernel_rfl)
theorem e93:abEnv.fn 93=some Tryz.f93:=by kernel_rfl
theorem t102:TQ0 102 false 1 [.nilFunc]:=kTQ0 (by kernel_rfl)
theorem t215:TQ4 215 (.pointer 218) false 1 [.pointer none]:=kTQ4 (by kernel_rfl)
theorem t218:TQ3 218 true 5 [.pointer none,.slice none 0 0,.slice none 0 0,.slice none 0 0,.map none] [(0,1),(1,3),(4,1)]:=kTQ3 (by kernel_rfl)
theorem r218:TR10 218 0 1 4:=⟨fun _ _ _=>⟨rfl,rfl,rfl⟩,fun _ _ _ _ _=>⟨rfl,rfl,rfl⟩⟩
theorem t221:TQ0 221 false 1 [.nilFunc]:=kTQ0 (by kernel_rfl)
theorem e94:abEnv.fn 94=some Tryz.f94:=by kernel_rfl
theorem e95:abEnv.fn 95=some Tryz.f95:=by kernel_rfl
theorem e96:abEnv.fn 96=some Tryz.f96:=by kernel_rfl
theorem e97:abEnv.fn 97=some Tryz.f97:=by kernel_rfl
theorem e98:abEnv.fn 98=some Tryz.f98:=by kernel_rfl
theorem t173:TQ3 173 true 1 [.pointer none] [(0,1)]:=kTQ3 (by kernel_rfl)
theorem r173:TR2 173 0:=⟨fun _ _ _=>rfl,fun _=>rfl⟩
theorem e99:abEnv.fn 99=some Tryz.f99:=by kernel_rfl
theorem t227:TQ0 227 false 1 [.nilFunc]:=kTQ0 (by kernel_rfl)
theorem t229:TQ0 229 false 1 [.nilFunc]:=kTQ0 (by kernel_rfl)
theorem e229E:dZ zL 229 8 1 [.nilFunc]:=⟨⟨_,rfl,by kernel_rfl,by kernel_rfl⟩,t229.2.2.1,rfl⟩
theorem t231:TQ6 231 (.slice 229) false 1 [.slice none 0 0]:=kTQ6 (by kernel_rfl)
theorem t233:TQ3 233 true 6 [.int .i64 0,.int .i64 0,.int .i64 0,.int .i64 0,.int .i64 0,.int .i64 0] [(0,1),(1,1),(2,1),(3,1),(4,1),(5,1)]:=kTQ3 (by kernel_rfl)
theorem r233:TR11 233 0 1 2 3 4 5:=⟨fun _ _ _=>⟨rfl,rfl,rfl,rfl,rfl,rfl⟩,fun _ _ _ _ _ _=>⟨rfl,rfl,rfl,rfl,rfl,rfl⟩⟩
theorem e233E:dZ zL 233 48 6 [.int .i64 0,.int .i64 0,.int .i64 0,.int .i64 0,.int .i64 0,.int .i64 0]:=⟨⟨_,rfl,by kernel_rfl,by kernel_rfl⟩,t233.2.2.1,rfl⟩
theorem e100:abEnv.fn 100=some Tryz.f100:=by kernel_rfl
theorem e102:abEnv.fn 102=some Tryz.f102:=by kernel_rfl
theorem e103:abEnv.fn 103=some Tryz.f103:=by kernel_rfl
theorem e104:abEnv.fn 104=some Tryz.f104:=by kernel_rfl
theorem e105:abEnv.fn 105=some Tryz.f105:=by kernel_rfl
theorem e106:abEnv.fn 106=some Tryz.f106:=by kernel_rfl
theorem e107:abEnv.fn 107=some Tryz.f107:=by kernel_rfl
theorem e108:abEnv.fn 108=some Tryz.f108:=by kernel_rfl
theorem e109:abEnv.fn 109=some Tryz.f109:=by kernel_rfl
theorem t184:TQ0 184 false 1 [.nilFunc]:=kTQ0 (by kernel_rfl)
theorem e110:abEnv.fn 110=some Tryz.f110:=by kernel_rfl
theorem e111:abEnv.fn 111=some Tryz.f111:=by kernel_rfl
theorem e112:abEnv.fn 112=some Tryz.f112:=by kernel_rfl
theorem e113:abEnv.fn 113=some Tryz.f113:=by kernel_rfl
theorem e114:abEnv.fn 114=some Tryz.f114:=by kernel_rfl
theorem e115:abEnv.fn 115=some Tryz.f115:=by kernel_rfl
theorem e116:abEnv.fn 116=some Tryz.f116:=by kernel_rfl
theorem e117:abEnv.fn 117=some Tryz.f117:=by kernel_rfl
theorem e118:abEnv.fn 118=some Tryz.f118:=by kernel_rfl
theorem e119:abEnv.fn 119=some Tryz.f119:=by kernel_rfl
theorem e120:abEnv.fn 120=some Tryz.f120:=by kernel_rfl
theorem e121:abEnv.fn 121=some Tryz.f121:=by kernel_rfl
theorem t250:TQ6 250 (.slice 260) false 1 [.slice none 0 0]:=kTQ6 (by kernel_rfl)
theorem t260:TQ3 260 true 2 [.int .i64 0,.int .i64 0] [(0,1),(1,1)]:=kTQ3 (by kernel_rfl)
theorem r260:TR1 260 0 1:=⟨fun _ _ _=>⟨rfl,rfl⟩,fun _ _=>⟨rfl,rfl⟩⟩
theorem e260E:dZ zL 260 16 2 [.int .i64 0,.int .i64 0]:=⟨⟨_,rfl,by kernel_rfl,by kernel_rfl⟩,t260.2.2.1,rfl⟩
theorem e122:abEnv.fn 122=some Tryz.f122:=by kernel_rfl
theorem t255:TQ1 255 (.int .u64) false 1 [.int .u64 0]:=kTQ1 (by kernel_rfl)
theorem e123:abEnv.fn 123=some Tryz.f123:=by kernel_rfl
theorem e124:abEnv.fn 124=some Tryz.f124:=by kernel_rfl
theorem e125:abEnv.fn 125=some Tryz.f125:=by kernel_rfl
theorem e126:abEnv.fn 126=some Tryz.f126:=by kernel_rfl
theorem e127:abEnv.fn 127=some Tryz.f127:=by kernel_rfl
theorem e128:abEnv.fn 128=some Tryz.f128:=by kernel_rfl
theorem e129:abEnv.fn 129=some Tryz.f129:=by kernel_rfl
theorem e130:abEnv.fn 130=some Tryz.f130:=by kernel_rfl
theorem e131:abEnv.fn 131=some Tryz.f131:=by kernel_rfl
theorem e132:abEnv.fn 132=some Tryz.f132:=by kernel_rfl
theorem e133:abEnv.fn 133=some Tryz.f133:=by kernel_rfl
theorem e134:abEnv.fn 134=some Tryz.f134:=by kernel_rfl
theorem e135:abEnv.fn 135=some Tryz.f135:=by kernel_rfl
theorem t209:TQ0 209 false 1 [.nilFunc]:=kTQ0 (by kernel_rfl)
theorem e136:abEnv.fn 136=some Tryz.f136:=by kernel_rfl
theorem e137:abEnv.fn 137=some Tryz.f137:=by kernel_rfl
theorem e138:abEnv.fn 138=some Tryz.f138:=by kernel_rfl
theorem e139:abEnv.fn 139=some Tryz.f139:=by kernel_rfl
theorem e140:abEnv.fn 140=some Tryz.f140:=by kernel_rfl
theorem t213:TQ0 213 false 1 [.nilFunc]:=kTQ0 (by kernel_rfl)
theorem e141:abEnv.fn 141=some Tryz.f141:=by kernel_rfl
theorem e142:abEnv.fn 142=some Tryz.f142:=by kernel_rfl
theorem e143:abEnv.fn 143=some Tryz.f143:=by kernel_rfl
theorem e144:abEnv.fn 144=some Tryz.f144:=by kernel_rfl
theorem e145:abEnv.fn 145=some Tryz.f145:=by kernel_rfl
theorem e146:abEnv.fn 146=some Tryz.f146:=by kernel_rfl
theorem e147:abEnv.fn 147=some Tryz.f147:=by kernel_rfl
theorem e148:abEnv.fn 148=some Tryz.f148:=by kernel_rfl
theorem e149:abEnv.fn 149=some Tryz.f149:=by kernel_rfl
theorem e150:abEnv.fn 150=some Tryz.f150:=by kernel_rfl
theorem t269:TQ6 269 (.slice 233) false 1 [.slice none 0 0]:=kTQ6 (by kernel_rfl)
theorem e151:abEnv.fn 151=some Tryz.f151:=by kernel_rfl
theorem e152:abEnv.fn 152=some Tryz.f152:=by kernel_rfl
theorem e153:abEnv.fn 153=some Tryz.f153:=by kernel_rfl
theorem e154:abEnv.fn 154=some Tryz.f154:=by kernel_rfl
theorem e155:abEnv.fn 155=some Tryz.f155:=by kernel_rfl
theorem e156:abEnv.fn 156=some Tryz.f156:=by kernel_rfl
theorem e157:abEnv.fn 157=some Tryz.f157:=by kernel_rfl
theorem e158:abEnv.fn 158=some Tryz.f158:=by kernel_rfl
theorem e163:abEnv.fn 163=some Tryz.f163:=by kernel_rfl
theorem e164:abEnv.fn 164=some Tryz.f164:=by kernel_rfl
theorem e165:abEnv.fn 165=some Tryz.f165:=by kernel_rfl
theorem e166:abEnv.fn 166=some Tryz.f166:=by kernel_rfl
theorem e167:abEnv.fn 167=some Tryz.f167:=by kernel_rfl
theorem e168:abEnv.fn 168=some Tryz.f168:=by kernel_rfl
theorem t157:TQ0 157 false 1 [.nilFunc]:=kTQ0 (by kernel_rfl)
theorem e169:abEnv.fn 169=some Tryz.f169:=by kernel_rfl
theorem e170:abEnv.fn 170=some Tryz.f170:=by kernel_rfl
theorem e171:abEnv.fn 171=some Tryz.f171:=by kernel_rfl
theorem e172:abEnv.fn 172=some Tryz.f172:=by kernel_rfl
theorem e173:abEnv.fn 173=some Tryz.f173:=by kernel_rfl
theorem t294:TQ4 294 (.pointer 252) false 1 [.pointer none]:=kTQ4 (by kernel_rfl)
theorem e174:abEnv.fn 174=some Tryz.f174:=by kernel_rfl
theorem t58:TQ0 58 false 1 [.nilFunc]:=kTQ0 (by kernel_rfl)
theorem e175:abEnv.fn 175=some Tryz.f175:=by kernel_rfl
theorem e176:abEnv.fn 176=some Tryz.f176:=by kernel_rfl
theorem e177:abEnv.fn 177=some Tryz.f177:=by kernel_rfl
theorem e178:abEnv.fn 178=some Tryz.f178:=by kernel_rfl
theorem e179:abEnv.fn 179=some Tryz.f179:=by kernel_rfl
theorem e180:abEnv.fn 180=some Tryz.f180:=by kernel_rfl
theorem e182:abEnv.fn 182=some Tryz.f182:=by kernel_rfl
theorem e183:abEnv.fn 183=some Tryz.f183:=by kernel_rfl
theorem t267:TQ0 267 false 1 [.nilFunc]:=kTQ0 (by kernel_rfl)
theorem e184:abEnv.fn 184=some Tryz.f184:=by kernel_rfl
theorem e185:abEnv.fn 185=some Tryz.f185:=by kernel_rfl
theorem t270:TQ0 270 false 1 [.nilFunc]:=kTQ0 (by kernel_rfl)
theorem e186:abEnv.fn 186=some Tryz.f186:=by kernel_rfl
theorem e187:abEnv.fn 187=some Tryz.f187:=by kernel_rfl
theorem e191:abEnv.fn 191=some Tryz.f191:=by kernel_rfl
theorem e192:abEnv.fn 192=some Tryz.f192:=by kernel_rfl
theorem e193:abEnv.fn 193=some Tryz.f193:=by kernel_rfl
theorem e194:abEnv.fn 194=some Tryz.f194:=by kernel_rfl
theorem e195:abEnv.fn 195=some Tryz.f195:=by kernel_rfl
theorem e197:abEnv.fn 197=some Tryz.f197:=by kernel_rfl
theorem e198:abEnv.fn 198=some Tryz.f198:=by kernel_rfl
theorem e199:abEnv.fn 199=some Tryz.f199:=by kernel_rfl
theorem e201:abEnv.fn 201=some Tryz.f201:=by kernel_rfl
theorem e202:abEnv.fn 202=some Tryz.f202:=by kernel_rfl
theorem e203:abEnv.fn 203=some Tryz.f203:=by kernel_rfl
theorem e204:abEnv.fn 204=some Tryz.f204:=by kernel_rfl
theorem e205:abEnv.fn 205=some Tryz.f205:=by kernel_rfl
theorem e206:abEnv.fn 206=some Tryz.f206:=by kernel_rfl
theorem e207:abEnv.fn 207=some Tryz.f207:=by kernel_rfl
theorem e208:abEnv.fn 208=some Tryz.f208:=by kernel_rfl
theorem e210:abEnv.fn 210=some Tryz.f210:=by kernel_rfl
theorem e211:abEnv.fn 211=some Tryz.f211:=by kernel_rfl
end Tryz
end Go.Ab

end
section
namespace Go.Ab
section
variable(A:List Arc)(f:Arc->Nat)
def outs(j v:Nat):List Nat:=(Xf j).filter fun i=>decide (f (A.getD i default)=v)
def start:Nat->Nat
 |0=>0
 |v+1=>start v+(outs A f A.length v).length
theorem iu(j v:Nat):outs A f (j+1) v=outs A f j v++(if f (A.getD j default)=v then [j]else []):=by
 simp_all[outs,XN,List.filter_append,default,List.filter_cons,List.filter_nil,decide_true,if_true]
theorem outs_pre{j k:Nat}(h:j<=k)(v:Nat): ∃l,outs A f k v=outs A f j v++l:=by
 induction k with
 |zero=>simp_all
 | succ k a=>
   by_cases b:j=k+1
   . simp_all
   grind[iu,List.append_assoc]
theorem wX{j k:Nat}(h:j<=k)(v:Nat):(outs A f j v).length<=(outs A f k v).length:=by
 obtain⟨l,a⟩:=outs_pre A f h v
 grind
theorem start_eq(v:Nat):start A f v=((Xf A.length).filter fun i=>decide (f (A.getD i default)<v)).length:=by
 have a: ∀(l:List Nat) (v:Nat),(l.filter fun i=>decide (f (A.getD i default)<v+1)).length=(l.filter fun i=>decide (f (A.getD i default)<v)).length+(l.filter fun i=>decide (f (A.getD i default)=v)).length:=by
  intro l v
  induction l with
  |nil=>rfl
  | cons x l b=>
    grind
 induction v with
 |zero=>rw [start];symm;simp_all
 |succ v b=>rw [start,b,a];rfl
theorem qd(v:Nat):start A f v+(outs A f A.length v).length<=A.length:=by
 have:=start_eq A f (v+1)
 grind[start,Xo,List.length_filter_le]
theorem vf{u v:Nat}(h:u<v):start A f u+(outs A f A.length u).length<=start A f v:=by
 induction v with
 |zero=>omega
 | succ v a=>
   rw [start]
   grind
theorem AN{u v r s:Nat}(b:r<(outs A f A.length u).length)(c:s<(outs A f A.length v).length)(h:start A f u+r=start A f v+s):u=v/\r=s:=by
 rcases Nat.lt_trichotomy u v with a|a|a
 . have:=vf A f a;omega
 . grind
 . have:=vf A f a;omega
end
def bM(x:Nat):List Value:=[.int .i64 x]
theorem cZ(x:Nat):(bM x).length=1:=rfl
def gb(h:Hp)(m:Nat)(v:Value)(N:Nat)(R:Nat->List Nat):Prop:=
 ∃a b,v=.slice (some ⟨a,0,none⟩) N N/\m<=a/\Row h a b 1/\b.length=N/\ ∀i,i<N-> ∃w,b[i]? =some w/\ar h 1 bM w (R i)/\ ∀c,aq w c->m<=c
theorem gb.mo{M:Nat->Prop}{h d:Hp}{v:Value}{m N:Nat}{R:Nat->List Nat}(r:gb h m v N R)(g:Mo M h d)(s: ∀b,M b->b<m):gb d m v N R:=by
 obtain⟨f,e,j,t,k,l,n⟩:=r
 refine⟨f,e,j,by omega,g.has (o:=.row e 1) k (fun h=>by grind),l,fun i p=>?_⟩
 obtain⟨w,a,b,c⟩:=n i p
 exact⟨w,a,b.mo g fun x q u=>by grind,fun x q=>by grind⟩
theorem gb.gr{h a:Hp}{v:Value}{m N:Nat}{R:Nat->List Nat}(g:Gr h a)(r:gb h m v N R):gb a m v N R:=
 r.mo (M:=NoM) g.fr (fun _ h=>h.elim)
theorem gb.low{h:Hp}{v:Value}{m a N:Nat}{R:Nat->List Nat}(r:gb h m v N R)(g:a<=m):gb h a v N R:=by
 obtain⟨b,c,d,j,e,f,k⟩:=r
 exact⟨b,c,d,by omega,e,f,fun i l=>by
  grind⟩
structure aS(h:Hp)(m:Nat)(p:Value)(γ:Gra):Prop where
 ex: ∃b vx vy va vo vi,p=ptrTo b/\Row h b [.int .i64 γ.nodes,vx,vy,va,vo,vi] 1/\di h vx vy va γ/\gb h m vo γ.nodes (outs γ.arcs Arc.s γ.arcs.length)/\gb h m vi γ.nodes (outs γ.arcs Arc.t γ.arcs.length)/\m<=b/\ ∀c,aq vx c\/aq vy c\/aq va c->m<=c
theorem di.mo{M:Nat->Prop}{h i:Hp}{b d e:Value}{j:Gra}(a:di h b d e j)(g:Mo M h i)(f: ∀c,aq b c\/aq d c\/aq e c-> ¬M c):di i b d e j:=
 ⟨a.X.mo g fun c h=>f c (.inl h),a.Y.mo g fun c h=>f c (.inr (.inl h)),a.A.mo g fun c h=>f c (.inr (.inr h))⟩
theorem aS.mo{M:Nat->Prop}{h a:Hp}{m:Nat}{p:Value}{d:Gra}(n:aS h m p d)(g:Mo M h a)(e: ∀b,M b->b<m):aS a m p d:=by
 obtain⟨b,f,i,j,k,l,q,r,s,t,u,v,w⟩:=n.ex
 exact⟨b,f,i,j,k,l,q,g.has (o:=.row _ 1) r (fun h=>by grind),s.mo g (fun c x y=>by grind),t.mo g e,u.mo g e,v,w⟩
theorem aS.gr{h a:Hp}{m:Nat}{p:Value}{b:Gra}(n:aS h m p b)(g:Gr h a):aS a m p b:=n.mo (M:=NoM) g.fr (fun _ h=>h.elim)
theorem iX{a:Type}{N k:Nat}{F F':Nat->a}(b: ∀i,i<N->i≠k->F' i=F i):((Xf N).map F).set k (F' k)=(Xf N).map F':=by
 refine Xh fun i=>?_
 grind
theorem ju{a:Type}{N k:Nat}{F:Nat->a}(b:k<N):((Xf N).map F)[k]? =some (F k):=by simp [b]
end Go.Ab

end
section
namespace Go.Ab
structure Hd where
 id:Nat
 key:Int
deriving Inhabited,DecidableEq
def hle(a b:Hd):Prop:=a.key<b.key\/(a.key=b.key/\a.id<=b.id)
def hlt(a b:Hd):Prop:=a.key<b.key\/(a.key=b.key/\a.id<b.id)
instance (a b:Hd):Decidable (hlt a b):=by unfold hlt;infer_instance
theorem we{a b:Hd}(h: ¬hlt a b):hle b a:=by unfold hlt at h;unfold hle;omega
theorem rS{a b:Hd}(h:hlt a b):hle a b:=by unfold hlt at h;unfold hle;omega
theorem jO{a b c:Hd}(h:hle a b)(k:hle b c):hle a c:=by unfold hle at*;omega
theorem uh(a:Hd):hle a a:=by unfold hle;omega
def sw(l:List Hd)(i k:Nat):List Hd:=(l.set i (l.getD k default)).set k (l.getD i default)
theorem gK(l:List Hd)(i k:Nat):(sw l i k).length=l.length:=by simp [sw]
theorem pG(l:List Hd)(i j:Nat)(x:Hd):(l.set i x).getD j default=if i=j/\j<l.length then x else l.getD j default:=by
 grind
theorem iD(l:List Hd){i k:Nat}(a:i<l.length)(b:k<l.length)(j:Nat):(sw l i k).getD j default=if j=k then l.getD i default else if j=i then l.getD k default else l.getD j default:=by
 unfold sw
 grind
theorem sJ(l:List Hd){i k:Nat}(a:i<l.length)(b:k<l.length):(sw l i k).Perm l:=by
 grind[set,List.set_set_perm,sw,default]
def lG(l:List Hd):Prop:= ∀j,0<j->j<l.length->hle (l.getD ((j-1)/4) default) (l.getD j default)
def qY(l:List Hd)(i:Nat):Prop:=(∀j,0<j->j<l.length->j≠i->hle (l.getD ((j-1)/4) default) (l.getD j default))/\ ∀j,0<j->j<l.length->(j-1)/4=i->0<i->hle (l.getD ((i-1)/4) default) (l.getD j default)
theorem up_done{l:List Hd}{i:Nat}(h:qY l i)(c:i=0\/hle (l.getD ((i-1)/4) default) (l.getD i default)):lG l:=by
 intro j a b
 by_cases e:j=i
 . grind
 . exact h.1 j a b e
theorem up_step{l:List Hd}{i:Nat}(e:i<l.length)(h:qY l i)(h0:0<i)(k:hlt (l.getD i default) (l.getD ((i-1)/4) default)):qY (sw l i ((i-1)/4)) ((i-1)/4):=by
 have c:(i-1)/4<l.length:=by omega
 generalize f:(i-1)/4=p at*
 have r:p<i:=by omega
 refine⟨fun j d a m=>?_,fun j d a m n=>?_⟩
 . rw [gK]at a
   rw [iD l e c,iD l e c,if_neg m]
   by_cases b:j=i
   . subst b;rw [f,if_pos rfl,if_pos rfl];exact rS k
   . rw [if_neg b]
     by_cases g:(j-1)/4=p
     . rw [if_pos g]
       have:=h.1 j d a b
       rw [g]at this
       exact jO (rS k) this
     . rw [if_neg g]
       by_cases e3:(j-1)/4=i
       . rw [if_pos e3];have:=h.2 j d a e3 h0;grind
       . rw [if_neg e3];exact h.1 j d a b
 . rw [gK]at a
   have o: ¬(p-1)/4=p:=by omega
   have q: ¬(p-1)/4=i:=by omega
   rw [iD l e c,iD l e c,if_neg o,if_neg q,if_neg (show¬j=p by omega)]
   have s:=h.1 p n c (by omega)
   by_cases b:j=i
   . grind
   . rw [if_neg b]
     have:=h.1 j d a b
     grind[jO]
def sH(l:List Hd)(i:Nat):Prop:=(∀j,0<j->j<l.length->(j-1)/4≠i->hle (l.getD ((j-1)/4) default) (l.getD j default))/\ ∀j,0<j->j<l.length->(j-1)/4=i->0<i->hle (l.getD ((i-1)/4) default) (l.getD j default)
theorem dn_done{l:List Hd}{i:Nat}(h:sH l i)(c: ∀j,0<j->j<l.length->(j-1)/4=i->hle (l.getD i default) (l.getD j default)):lG l:=by
 intro j a b
 by_cases e:(j-1)/4=i
 . grind
 . exact h.1 j a b e
theorem dn_step{l:List Hd}{i b:Nat}(h:sH l i)(b0:0<b)(a:b<l.length)(m:(b-1)/4=i)(n:hlt (l.getD b default) (l.getD i default))(o: ∀j,0<j->j<l.length->(j-1)/4=i->hle (l.getD b default) (l.getD j default)):sH (sw l i b) b:=by
 have d:i<l.length:=by omega
 refine⟨fun j e c f=>?_,fun j e c f _=>?_⟩
 . rw [gK]at c
   rw [iD l d a,iD l d a,if_neg f]
   by_cases g:(j-1)/4=i
   . rw [if_pos g]
     by_cases k:j=b
     . rw [if_pos k];exact rS n
     grind
   . rw [if_neg g]
     by_cases k:j=b
     . omega
     . rw [if_neg k]
       by_cases e3:j=i
       . subst e3;rw [if_pos rfl];exact h.2 b b0 a m e
       . rw [if_neg e3];exact h.1 j e c g
 . rw [gK]at c
   rw [iD l d a,iD l d a,m,if_neg (show¬i=b by omega),if_pos rfl,if_neg (show¬j=b by omega),if_neg (show¬j=i by omega)]
   have:=h.1 j e c (by omega)
   rwa [f]at this
theorem heap_min{l:List Hd}(h:lG l): ∀j,j<l.length->hle (l.getD 0 default) (l.getD j default):=by
 intro j
 induction j using Nat.strongRecOn with
 | _ j a=>
   intro b
   by_cases e:j=0
   . subst e;exact uh _
   . exact jO (a ((j-1)/4) (by omega) (by omega)) (h j (by omega) b)
theorem mY(l m:List Hd){j:Nat}(a:j<l.length):(l++m).getD j default=l.getD j default:=by
 grind
theorem xF{l:List Hd}(h:lG l)(x:Hd):qY (l++[x]) l.length:=by
 refine⟨fun j a b c=>?_,fun j a b c _=>?_⟩
 . simp at b
   rw [mY l _ (by omega),mY l _ (by omega)]
   exact h j a (by omega)
 grind
theorem Cf{l:List Hd}(h:lG l){i:Nat}{x:Hd}(k:hle x (l.getD i default)):qY (l.set i x) i:=by
 refine⟨fun j b a c=>?_,fun j b a c f=>?_⟩
 . rw [XO]at a
   rw [pG,pG,if_neg (show¬(i=j/\_)from fun e=>c e.1.symm)]
   split
   . rename_i e;have:=h j b a;grind[jO]
   . exact h j b a
 . rw [XO]at a
   rw [pG,pG,if_neg (show¬(i=j/\_) by omega),if_neg (show¬(i=(i-1)/4/\_) by omega)]
   have g:=h i f (by omega)
   have d:=h j b a
   rw [c]at d
   exact jO g d
theorem getD_take(l:List Hd){n j:Nat}(a:j<n):(l.take n).getD j default=l.getD j default:=by
 grind
theorem heap_pop{l:List Hd}(h:lG l)(d:0<l.length):sH ((sw l 0 (l.length-1)).take (l.length-1)) 0:=by
 refine⟨fun j a b c=>?_,fun j a b c e=>?_⟩
 . rw [Xp,gK]at b
   rw [getD_take _ (by omega),getD_take _ (by omega),iD l (by omega) (by omega),iD l (by omega) (by omega),if_neg (by omega),if_neg (by omega),if_neg (by omega),if_neg (by omega)]
   exact h j a (by omega)
 . omega
def hU(l:List Hd)(K:Nat->Option Int):Prop:=(l.map Hd.id).Nodup/\ ∀v k,K v=some k↔⟨v,k⟩∈l
def cK(K:Nat->Option Int)(v:Nat)(x:Option Int):Nat->Option Int:=fun u=>if u=v then x else K u
theorem hU.perm{l m:List Hd}{K:Nat->Option Int}(h:hU l K)(p:m.Perm l):hU m K:=
 ⟨(p.map Hd.id).nodup_iff.2 h.1,fun v k=>by rw [h.2];grind⟩
theorem hU.free{l:List Hd}{K:Nat->Option Int}(h:hU l K){v:Nat}(c:K v=none):v∉l.map Hd.id:=by
 intro a
 obtain⟨x,b,rfl⟩:=List.mem_map.1 a
 have:=(h.2 x.id x.key).2 b
 grind
theorem hU.push{l:List Hd}{K:Nat->Option Int}(h:hU l K){v:Nat}(d:K v=none)(k:Int):hU (l++[⟨v,k⟩]) (cK K v (some k)):=by
 refine⟨?_,fun u x=>?_⟩
 . rw [List.map_append,Xl]
   exact⟨h.1,by simp,fun a f b g e=>h.free d (by grind)⟩
 . unfold cK
   by_cases e:u=v
   . subst e
     rw [if_pos rfl,List.mem_append]
     constructor
     . grind
     . rintro(c|c)
       . have:=(h.2 u x).2 c;grind
       grind
   . rw [if_neg e,List.mem_append,h.2]
     grind
theorem nodup_idx{l:List Hd}(h:(l.map Hd.id).Nodup){i j:Nat}(a:i<l.length)(b:j<l.length)(e:(l.getD i default).id=(l.getD j default).id):i=j:=by
 refine qc h (x:=(l.getD i default).id) (by simp [a]) ?_
 grind
theorem hU.lower{l:List Hd}{K:Nat->Option Int}(h:hU l K){i:Nat}(f:i<l.length)(k:Int):hU (l.set i ⟨(l.getD i default).id,k⟩) (cK K (l.getD i default).id (some k)):=by
 have g:(l.set i ⟨(l.getD i default).id,k⟩).map Hd.id=l.map Hd.id:=by
  rw [List.map_set]
  refine Xh fun j=>?_
  grind
 refine⟨by rw [g];exact h.1,fun u x=>?_⟩
 unfold cK
 by_cases e:u=(l.getD i default).id
 . rw [if_pos e]
   constructor
   . intro m;cases m;subst e;exact List.mem_iff_getElem?.2 ⟨i,by simp [f]⟩
   . intro b
     obtain⟨j,a⟩:=List.mem_iff_getElem?.1 b
     rw [List.getElem?_set]at a
     split at a
     . cases a;rfl
     . rename_i c
       have d:=(List.getElem?_eq_some_iff.1 a).1
       exact absurd (nodup_idx h.1 f d (by grind)) c
 . rw [if_neg e,h.2]
   constructor
   . intro b
     obtain⟨j,a⟩:=List.mem_iff_getElem?.1 b
     refine List.mem_iff_getElem?.2 ⟨j,?_⟩
     grind
   grind
theorem hU.pop{l:List Hd}{K:Nat->Option Int}(h:hU l K)(b:0<l.length):hU ((sw l 0 (l.length-1)).take (l.length-1)) (cK K (l.getD 0 default).id none):=by
 have p:=sJ l (i:=0) (k:=l.length-1) b (by omega)
 have c:=h.perm p
 have e:sw l 0 (l.length-1)=(sw l 0 (l.length-1)).take (l.length-1)++[l.getD 0 default]:=by
  refine Xh fun j=>?_
  have g:=iD l (i:=0) (k:=l.length-1) b (by omega) (l.length-1)
  rw [if_pos rfl]at g
  grind[gK,Xd,List.getElem?_take_of_lt,zO,List.getElem?_eq_none]
 generalize(sw l 0 (l.length-1)).take (l.length-1)=m at*
 generalize l.getD 0 default=x at*
 rw [e]at c
 obtain⟨a,o⟩:=c
 rw [List.map_append,Xl]at a
 refine⟨a.1,fun v k=>?_⟩
 unfold cK
 by_cases d:v=x.id
 . rw [if_pos d]
   constructor
   . intro h;cases h
   . intro n
     exact absurd d (a.2.2 v (List.mem_map_of_mem (f:=Hd.id) n) x.id (by simp))
 grind
theorem hU.at{l:List Hd}{K:Nat->Option Int}(h:hU l K){i:Nat}(a:i<l.length):K (l.getD i default).id=some (l.getD i default).key:=
 (h.2 _ _).2 (List.mem_iff_getElem?.2 ⟨i,by simp [a]⟩)
theorem hU.idx{l:List Hd}{K:Nat->Option Int}(h:hU l K){v:Nat}{k:Int}(a:K v=some k): ∃i,i<l.length/\l.getD i default=⟨v,k⟩:=by
 obtain⟨i,b⟩:=List.mem_iff_getElem?.1 ((h.2 v k).1 a)
 grind
theorem hU.nil{K:Nat->Option Int}(h:hU [] K)(v:Nat):K v=none:=by
 cases a:K v with
 |none=>rfl
 |some k=>have:=(h.2 v k).1 a;cases this
theorem cont_nil:hU [] (fun _=>none):=⟨.nil,fun v k=>by grind⟩
end Go.Ab

end
section
namespace Go.Ab
def FAR:Nat:=72057594037927936
def cF:Nat:=2147483647
theorem nL:FAR=72057594037927936:=rfl
theorem pj:cF=2147483647:=rfl
inductive Wk(B:List Arc)(s:Nat):Nat->Nat->Prop where
 |nil:Wk B s s 0
 |snoc {w:Nat} {a:Arc}:a∈B->Wk B s a.s w->Wk B s a.t (w+a.w)
theorem Wk.snoc'{B:List Arc}{s u v w x:Nat}(h:Wk B s u w){a:Arc}(b:a∈B)(c:a.s=u)(d:a.t=v)(e:x=w+a.w):Wk B s v x:=by
 subst c d e;exact .snoc b h
def IsD(B:List Arc)(s v x:Nat):Prop:=(x<FAR/\Wk B s v x/\ ∀w,Wk B s v w->x<=w)\/(x=FAR/\ ∀w,¬Wk B s v w)
theorem IsD.uniq{B:List Arc}{s v x y:Nat}(h:IsD B s v x)(k:IsD B s v y):x=y:=by
 rcases h with⟨a,b,c⟩|⟨a,b⟩<;>rcases k with⟨d,e,f⟩|⟨d,e⟩
 . have:=c _ e;have:=f _ b;omega
 . exact absurd b (e _)
 . exact absurd e (b _)
 . omega
theorem IsD.le{B:List Arc}{s v x:Nat}(h:IsD B s v x):x<=FAR:=by
 rcases h with⟨a,_,_⟩|⟨a,_⟩<;>omega
theorem IsD.arc{B:List Arc}{s x y:Nat}{a:Arc}(c:a∈B)(f:IsD B s a.s x)(d:IsD B s a.t y):y<=x+a.w:=by
 rcases f with⟨g,b,j⟩|⟨g,b⟩
 . rcases d with⟨h,e,i⟩|⟨h,e⟩
   . exact i _ (.snoc c b)
   . exact absurd (.snoc c b) (e _)
 . have:=d.le;omega
theorem pL: ∀(N:Nat) (l:List Nat),l.Nodup->(∀x∈l,x<N)->l.length<=N
 | 0,l,_,h=>by
   cases l with
   |nil=>simp
   |cons x l=>have:=h x (by simp);omega
 | N+1,l,b,h=>by
   have f:=pL N (l.erase N) (b.erase N) (fun x c=>by
    have d:=h x (List.mem_of_mem_erase c)
    have g:x≠N:=fun e=>by subst e;exact(List.Nodup.not_mem_erase b) c
    omega)
   have d:=List.length_erase (a:=N) (l:=l)
   split at d<;>omega

section
variable{B:List Arc}{s N:Nat}{O:List Nat}{D:Nat->Nat}{K:Nat->Option Int}{ex:Arc->Prop}
structure Dj(B:List Arc)(s N:Nat)(O:List Nat)(D:Nat->Nat)(K:Nat->Option Int)(ex:Arc->Prop):Prop where
 i1: ∀v,v∈O->K v=none
 i2: ∀v∈O,Wk B s v (D v)/\(∀w,Wk B s v w->D v<=w)/\D v<=O.length*cF
 i2f: ∀v,v∉O->D v=FAR
 i3: ∀v k,K v=some k->v<N/\ ∃n:Nat,k=n/\Wk B s v n/\n<=O.length*cF
 i4: ∀a∈B,a.s∈O-> ¬ex a->a.t∈O\/ ∃k:Int,K a.t=some k/\k<=D a.s+a.w
 i5:s∈O\/K s=some 0
 nd:O.Nodup
 lt: ∀v∈O,v<N
theorem Dj.len(d:Dj B s N O D K ex):O.length<=N:=pL N O d.nd d.lt
theorem dj_init(b:s<N):Dj B s N [] (fun _=>FAR) (cK (fun _=>none) s (some 0)) (fun _=>False):=by
 refine⟨fun v h=>(by cases h),fun v h=>(by cases h),fun v _=>rfl,fun v k h=>?_,fun a _ h=>(by cases h),.inr (by simp [cK]),.nil,fun v h=>(by cases h)⟩
 unfold cK at h
 split at h
 . rename_i e;cases h;subst e;exact⟨b,0,rfl,.nil,by simp⟩
 . cases h
theorem Dj.front(d:Dj B s N O D K (fun _=>False)){x w:Nat}(h:Wk B s x w):x∈O\/ ∃y k,K y=some k/\k<=(w:Int):=by
 induction h with
 |nil=>exact d.i5.imp (fun h=>h) (fun h=>⟨_,_,h,by omega⟩)
 | @snoc w a e f b=>
   rcases b with b|⟨y,k,c,g⟩
   . rcases d.i4 a e b (fun h=>h)with h|⟨k,c,g⟩
     . exact .inl h
     . have:=(d.i2 _ b).2.1 _ f
       exact .inr ⟨_,k,c,by omega⟩
   . exact .inr ⟨y,k,c,by omega⟩
theorem Dj.pop(d:Dj B s N O D K (fun _=>False)){v:Nat}{n:Nat}(q:K v=some (n:Int))(A: ∀u k,K u=some k->(n:Int)<=k):
 Dj B s N (O++[v]) (fun u=>if u=v then n else D u) (cK K v none) (fun a=>a.s=v)/\v∉O/\v<N/\n<=O.length*cF:=by
 have g:v∉O:=fun h=>by have:=d.i1 v h;rw [q]at this;cases this
 obtain⟨i,C,e,E,l⟩:=d.i3 v _ q
 have e:n=C:=by omega
 subst e
 have r:(O++[v]).length*cF=O.length*cF+cF:=by rw [Xv,List.length_singleton,Nat.succ_mul]
 refine⟨⟨fun u f=>?_,fun u f=>?_,fun u f=>?_,fun u k f=>?_,fun a o t x=>?_,?_,?_,fun u f=>?_⟩,g,i,l⟩
 . unfold cK
   by_cases e:u=v
   . rw [if_pos e]
   . rw [if_neg e];simp [e]at f;exact d.i1 u f
 . rw [r]
   by_cases e:u=v
   . subst e
     simp only [if_true]
     refine⟨E,fun w h=>?_,by omega⟩
     rcases d.front h with j|⟨y,k,j,z⟩
     . exact absurd j g
     . have:=A y k j;omega
   . simp only [e,if_false]
     simp [e]at f
     obtain⟨a,b,c⟩:=d.i2 u f
     exact⟨a,b,by omega⟩
 . simp at f
   simp only [f.2,if_false]
   exact d.i2f u f.1
 . unfold cK at f
   split at f
   . cases f
   . obtain⟨a,m,b,c,e⟩:=d.i3 u k f
     exact⟨a,m,b,c,by rw [r];omega⟩
 . simp [x]at t
   have p: ¬a.s=v:=x
   simp only [p,if_false]
   rcases d.i4 a o t (fun h=>h)with h|⟨k,j,z⟩
   . exact .inl (by simp [h])
   . by_cases e:a.t=v
     . exact .inl (by simp [e])
     . exact .inr ⟨k,by unfold cK;rw [if_neg e];exact j,z⟩
 . rcases d.i5 with h|h
   . exact .inl (by simp [h])
   . by_cases e:s=v
     . exact .inl (by simp [e])
     . exact .inr (by unfold cK;rw [if_neg e];exact h)
 . rw [Xl]
   exact⟨d.nd,by simp,fun a o b l e=>g (by simp at l;subst l;subst e;exact o)⟩
 . rcases List.mem_append.1 f with h|h
   . exact d.lt u h
   . simp at h;subst h;exact i
def iT(O:List Nat)(K:Nat->Option Int)(u:Nat)(x:Int):Nat->Option Int:=if u∈O then K else match K u with
 |some k=>if k<=x then K else cK K u (some x)
 |none=>cK K u (some x)
theorem Dj.relaxed (d:Dj B s N O D K ex) {ex':Arc->Prop} {a:Arc} (t:a∈B) (u:a.s∈O) (w:a.t<N) (m:D a.s+a.w<=O.length*cF) (x: ∀b∈B,¬ex' b-> ¬ex b\/b=a):
 Dj B s N O D (iT O K a.t ((D a.s+a.w:Nat):Int)) ex':=by
 have f: ∀i,(∀v,v∈O->i v=K v)->(∀v k,i v=some k->K v=some k\/(v=a.t/\k=((D a.s+a.w:Nat):Int)))->(∀v k,K v=some k-> ∃j,i v=some j/\j<=k)->(a.t∈O\/ ∃k:Int,i a.t=some k/\k<=D a.s+a.w)->Dj B s N O D i ex':=by
  intro i y q r z
  refine⟨fun v c=>by rw [y v c];exact d.i1 v c,d.i2,d.i2f,fun v k g=>?_,fun b m n o=>?_,?_,d.nd,d.lt⟩
  . rcases q v k g with h|⟨rfl,rfl⟩
    . exact d.i3 v k h
    . exact⟨w,_,rfl,.snoc t (d.i2 _ u).1,m⟩
  . rcases x b m o with h|rfl
    . rcases d.i4 b m n h with h|⟨k,A,E⟩
      . exact .inl h
      . obtain⟨j,l,C⟩:=r _ _ A
        exact .inr ⟨j,l,by omega⟩
    . exact z
  . rcases d.i5 with h|h
    . exact .inl h
    . obtain⟨j,l,C⟩:=r _ _ h
      rcases q _ _ l with p|⟨p,F⟩
      . rw [h]at p;exact .inr (by rw [l,p])
      . exact .inr (by rw [l];congr 1;omega)
 unfold iT
 by_cases h:a.t∈O
 . rw [if_pos h];exact f K (fun _ _=>rfl) (fun _ _ h=>.inl h) (fun v k h=>⟨k,h,by omega⟩) (.inl h)
 . rw [if_neg h]
   have upd:(∀k,K a.t=some k->((D a.s+a.w:Nat):Int)<=k)->Dj B s N O D (cK K a.t (some ((D a.s+a.w:Nat):Int))) ex':=fun g=>by
    refine f _ (fun v c=>?_) (fun v k c=>?_) (fun v k c=>?_) (.inr ⟨((D a.s+a.w:Nat):Int),by unfold cK;rw [if_pos rfl],by omega⟩)
    . unfold cK;rw [if_neg (fun e=>h (by subst e;exact c))]
    . unfold cK at c
      split at c
      . rename_i e;cases c;exact .inr ⟨e,rfl⟩
      . exact .inl c
    . unfold cK
      by_cases e:v=a.t
      . rw [if_pos e];subst e;exact⟨_,rfl,g k c⟩
      . rw [if_neg e];exact⟨k,c,by omega⟩
   cases g:K a.t with
   |none=>simp only [];exact upd (fun k e=>by rw [g]at e;cases e)
   | some k=>
     simp only []
     split
     . rename_i hle
       exact f K (fun _ _=>rfl) (fun _ _ h=>.inl h) (fun v k h=>⟨k,h,by omega⟩) (.inr ⟨k,g,by omega⟩)
     . rename_i hle
       exact upd (fun j e=>by rw [g]at e;cases e;omega)
theorem Dj.done(d:Dj B s N O D K (fun _=>False))(f: ∀v,K v=none)(g:N<=12)(v:Nat):IsD B s v (D v):=by
 have j:=Nat.mul_le_mul_right cF (Xo d.len g)
 have:=nL
 have:=pj
 by_cases h:v∈O
 . obtain⟨a,b,c⟩:=d.i2 v h
   exact .inl ⟨by omega,a,b⟩
 . refine .inr ⟨d.i2f v h,fun w i=>?_⟩
   rcases d.front i with e|⟨y,k,e,_⟩
   . exact h e
   . rw [f]at e;cases e
end
theorem gQ{A:List Arc}{f:Arc->Nat}{j v i:Nat}:i∈outs A f j v↔i<j/\f (A.getD i default)=v:=by
 unfold outs
 rw [List.mem_filter,XQ,decide_eq_true_eq]
def cQ(a:Arc):Arc:=⟨a.t,a.s,a.w⟩

structure Ls(B:List Arc)(s N:Nat)(l:Nat->Nat):Prop where
 le: ∀v,l v<=FAR
 wk: ∀v,l v=FAR\/Wk B s v (l v)
 s0:l s=0
def cV(l:Nat->Nat)(v x:Nat):Nat->Nat:=fun u=>if u=v then x else l u
theorem Ls.step{B:List Arc}{s N:Nat}{l:Nat->Nat}(h:Ls B s N l){a:Arc}(b:a∈B)(f:l a.s<FAR)(c:l a.s+a.w<l a.t):Ls B s N (cV l a.t (l a.s+a.w)):=by
 have d:=(h.wk a.s).resolve_left (by omega)
 refine⟨fun v=>?_,fun v=>?_,?_⟩
 . unfold cV;split
   . have:=h.le a.t;omega
   . exact h.le v
 . unfold cV;split
   . rename_i e;subst e;exact .inr (.snoc b d)
   . exact h.wk v
 . unfold cV;split
   . rename_i e;rw [<-e,h.s0]at c;omega
   . exact h.s0
end Go.Ab

end
section
namespace Go.Ab
def EM(l:List (Int×Value×Nat)):List (Value×Value×Nat):=l.map fun p=>(.int .i64 p.1,p.2.1,p.2.2)
def dR(f:Int->Option Value)(x:Int)(v:Option Value):Int->Option Value:=fun y=>if y=x then v else f y
def dG(a:List (Value×Value×Nat))(c:Nat)(f:Int->Option Value):Prop:=
 ∃l,a=EM l/\(l.map Xk).Nodup/\(l.map fun p=>p.2.2).Nodup/\(∀p∈l,p.2.2<c)/\ ∀x v,f x=some v↔ ∃n,(x,v,n)∈l
theorem tw{x y:Int}:bD (.int .i64 x) (.int .i64 y)=some (decide (x=y)):=by
 show some (gL x y)=_
 congr 1
 rw [mG]
theorem At{l:List (Int×Value×Nat)}(a:(l.map Xk).Nodup){x:Int}{v:Value}{n:Nat}(h:(x,v,n)∈l):aQ (.int .i64 x) (EM l)=some (some (v,n)):=by
 induction l with
 |nil=>cases h
 | cons p l b=>
   obtain⟨y,w,m⟩:=p
   show(match bD (.int .i64 x) (.int .i64 y)with|none=>none|some true=>some (some (w,m))|some false=>aQ (.int .i64 x) (EM l))=_
   rw [tw]
   grind
theorem find_miss{l:List (Int×Value×Nat)}{x:Int}(h:x∉l.map Xk):aQ (.int .i64 x) (EM l)=some none:=by
 induction l with
 |nil=>rfl
 | cons p l a=>
   obtain⟨y,w,m⟩:=p
   show(match bD (.int .i64 x) (.int .i64 y)with|none=>none|some true=>some (some (w,m))|some false=>aQ (.int .i64 x) (EM l))=_
   simp_all[tw,Xz,XA,not_or,decide_eq_false]
theorem rZ{l:List (Int×Value×Nat)}(c:(l.map Xk).Nodup){x:Int}{v:Value}{n:Nat}(h:(x,v,n)∈l):
 ∃a b,l=a++(x,v,n)::b/\(∀w,iR (.int .i64 x) w (EM l)=EM (a++(x,w,n)::b))/\jP (.int .i64 x) (EM l)=EM (a++b):=by
 induction l with
 |nil=>cases h
 | cons p l d=>
   obtain⟨y,w,m⟩:=p
   rw [Xz,XE]at c
   by_cases e:x=y
   . subst e
     rcases List.mem_cons.1 h with h|h
     . cases h
       refine⟨[],l,rfl,fun u=>?_,?_⟩
       . show(match bD (.int .i64 x) (.int .i64 x)with|some true=>_|_=>_)=_
         rw [tw,decide_eq_true rfl];rfl
       . show(match bD (.int .i64 x) (.int .i64 x)with|some true=>_|_=>_)=_
         rw [tw,decide_eq_true rfl];rfl
     grind
   . rcases List.mem_cons.1 h with h|h
     . grind
     grind[bD,iR,EM,tw,decide_eq_false,jP]
theorem tN{a b:List (Int×Value×Nat)}{x:Int}{v w:Value}{n:Nat}(c:((a++(x,v,n)::b).map fun p=>p.2.2).Nodup):fD n w (EM (a++(x,v,n)::b))=some (EM (a++(x,w,n)::b)):=by
 induction a with
 | nil=>
   show(bif XC n n then _ else _)=_
   rw [XX];rfl
 | cons p a d=>
   obtain⟨y,u,m⟩:=p
   rw [List.cons_append,Xz,XE]at c
   grind[XC,XR,absurd,fD,EM]
theorem fst_app{a b:List (Int×Value×Nat)}{x:Int}{v:Value}{n:Nat}:(a++(x,v,n)::b).map Xk=a.map Xk++x::b.map Xk:=by simp
section
variable{es:List (Value×Value×Nat)}{c:Nat}{f:Int->Option Value}{x:Int}
theorem qS:dG [] 0 (fun _=>none):=⟨[],rfl,.nil,.nil,fun _ h=>(by cases h),fun x v=>⟨fun h=>(by cases h),fun⟨_,h⟩=>(by cases h)⟩⟩
theorem dG.hit(h:dG es c f){v:Value}(hf:f x=some v): ∃n,aQ (.int .i64 x) es=some (some (v,n)):=by
 obtain⟨l,rfl,a,b,d,e⟩:=h
 grind[hf,At]
theorem dG.miss(h:dG es c f)(hf:f x=none):aQ (.int .i64 x) es=some none:=by
 obtain⟨l,rfl,e,g,i,a⟩:=h
 refine find_miss fun b=>?_
 obtain⟨⟨y,v,n⟩,d,rfl⟩:=List.mem_map.1 b
 have:=(a y v).2 ⟨n,d⟩
 grind
theorem tX{a b:List (Int×Value×Nat)}{v w:Value}{n:Nat}(e:((a++(x,v,n)::b).map Xk).Nodup)(j:((a++(x,v,n)::b).map fun p=>p.2.2).Nodup)(g: ∀p∈a++(x,v,n)::b,p.2.2<c)
 (k: ∀x' v',f x'=some v'↔ ∃h,(x',v',h)∈a++(x,v,n)::b):dG (EM (a++(x,w,n)::b)) c (dR f x (some w)):=by
 have i:=e
 rw [fst_app,Xl]at i
 refine⟨_,rfl,by grind,by grind,fun p d=>?_,fun y u=>?_⟩
 . rcases List.mem_append.1 d with d|d
   . grind
   . rcases List.mem_cons.1 d with rfl|d
     . exact g (x,v,n) (by simp)
     grind
 . unfold dR
   grind
theorem ug{l:List (Int×Value×Nat)}{w:Value}(g:(l.map Xk).Nodup)(h:(l.map fun p=>p.2.2).Nodup)(i: ∀p∈l,p.2.2<c)(b: ∀x' v',f x'=some v'↔ ∃d,(x',v',d)∈l)(hf:f x=none):
 dG (EM (l++[(x,w,c)])) (c+1) (dR f x (some w)):=by
 have j:x∉l.map Xk:=fun e=>by
  obtain⟨⟨y,v,n⟩,a,rfl⟩:=List.mem_map.1 e
  have:=(b y v).2 ⟨n,a⟩
  grind
 refine⟨_,rfl,?_,?_,fun p a=>?_,fun y u=>?_⟩
 . grind
 . grind
 . grind
 . unfold dR
   grind
theorem em_app(l:List (Int×Value×Nat))(v:Value)(n:Nat):EM l++[(.int .i64 x,v,n)]=EM (l++[(x,v,n)]):=by unfold EM;grind
theorem dG.put(h:dG es c f)(v:Value): ∃es' c',(match aQ (.int .i64 x) es with|none=>none|some (some _)=>some (iR (.int .i64 x) v es,c)|some none=>some (es++[(.int .i64 x,v,c)],c+1))=some (es',c')/\dG es' c' (dR f x (some v)):=by
 cases hf:f x with
 | none=>
   rw [h.miss hf]
   obtain⟨l,rfl,d,i,j,g⟩:=h
   exact⟨_,_,rfl,by rw [em_app];exact ug d i j g hf⟩
 | some w=>
   obtain⟨n,e⟩:=h.hit hf
   rw [e]
   obtain⟨l,rfl,d,i,j,g⟩:=h
   obtain⟨m,k⟩:=(g x w).1 hf
   obtain⟨a,b,rfl,o,_⟩:=rZ d k
   exact⟨_,_,rfl,by rw [o];exact tX d i j g⟩
theorem del_miss{l:List (Int×Value×Nat)}(h:x∉l.map Xk):jP (.int .i64 x) (EM l)=EM l:=by
 induction l with
 |nil=>rfl
 | cons p l a=>
   obtain⟨y,w,m⟩:=p
   simp only [Xz,XA,not_or]at h
   grind[bD,jP,EM,tw,decide_eq_false]
theorem dG.del(h:dG es c f):dG (jP (.int .i64 x) es) c (dR f x none):=by
 obtain⟨l,rfl,d,o,g,i⟩:=h
 cases hf:f x with
 | none=>
   have q:x∉l.map Xk:=fun e=>by
    obtain⟨⟨y,v,n⟩,j,rfl⟩:=List.mem_map.1 e
    have:=(i y v).2 ⟨n,j⟩
    grind
   rw [del_miss q]
   refine⟨l,rfl,d,o,g,fun y u=>?_⟩
   unfold dR
   grind
 | some w=>
   obtain⟨m,e⟩:=(i x w).1 hf
   obtain⟨a,b,rfl,_,r⟩:=rZ d e
   rw [r]
   have k:=d
   rw [fst_app,Xl]at k
   obtain⟨t,s,z⟩:=k
   rw [XE]at s
   refine⟨a++b,rfl,?_,?_,fun p j=>g p ?_,fun y u=>?_⟩
   . grind
   . grind
   . grind
   . unfold dR
     grind
theorem dG.ent(h:dG es c f)(z:Value): ∃d q n,(match aQ (.int .i64 x) es with|none=>none|some (some (v,n))=>some (iR (.int .i64 x) v es,c,v,n)|some none=>some (es++[(.int .i64 x,z,c)],c+1,z,c))=some (d,q,(f x).getD z,n)/\dG d q (dR f x (some ((f x).getD z)))/\
 ∀w,∃es2,fD n w d=some es2/\dG es2 q (dR f x (some w)):=by
 cases hf:f x with
 | none=>
   rw [h.miss hf]
   obtain⟨l,rfl,g,i,o,j⟩:=h
   have k:=ug (w:=z) g i o j hf
   refine⟨_,_,_,rfl,by rw [em_app];exact k,fun w=>?_⟩
   rw [em_app]
   obtain⟨u,e,y,A,B,C⟩:=k
   have t:((l++(x,z,c)::[]).map fun p=>p.2.2).Nodup:=by
    grind
   exact⟨_,tN t,ug g i o j hf⟩
 | some v=>
   obtain⟨l,rfl,g,i,o,j⟩:=h
   obtain⟨m,r⟩:=(j x v).1 hf
   rw [At g r]
   obtain⟨a,b,rfl,s,_⟩:=rZ g r
   refine⟨_,_,_,rfl,by rw [s];exact tX g i o j,fun w=>?_⟩
   rw [s]
   exact⟨_,tN (by simpa using i),tX g i o j⟩
end

section
variable{M:Nat->Prop}{h0 h:Hp}{L:List (Nat×Ob)}{G:List GL}{E:Env}{t kt el:TypeId}{b c:Nat}{es:List (Value×Value×Nat)}{f:Int->Option Value}{x:Int}
theorem qK(a:E.und kt=some (.int .i64)):aT E kt (.int .i64 x)=true:=by simp only [aT,a];rfl
theorem rF(a:E.und t=some (.map kt el))(d:E.und kt=some (.int .i64)){z:Value}(g:E.zeroV el=some z)(i:h.get b=some (.map es c))(m:dG es c f):
 cm E h t (.map (some b)) (.int .i64 x) true=some (.tuple #[(f x).getD z,.bool (f x).isSome]):=by
 simp only [cm,a,qK d,cond_true,i]
 cases hf:f x with
 |none=>rw [m.miss hf];simp [g]
 |some v=>obtain⟨n,e⟩:=m.hit hf;rw [e];simp
theorem qI(a:E.und t=some (.map kt el))(d:E.und kt=some (.int .i64)){z:Value}(g:E.zeroV el=some z)(i:h.get b=some (.map es c))(m:dG es c f):
 cm E h t (.map (some b)) (.int .i64 x) false=some ((f x).getD z):=by
 simp only [cm,a,qK d,cond_true,i]
 cases hf:f x with
 |none=>rw [m.miss hf];simp [g]
 |some v=>obtain⟨n,e⟩:=m.hit hf;rw [e];simp
theorem lW{x:Blk}{es':List (Value×Value×Nat)}{c':Nat}(a:h.get b=some x):(h.put b (.map es' c')).get b=some (.map es' c'):=by rw [Hp.get_put,if_pos ⟨rfl,by rw [a];rfl⟩]
theorem St.mputI(S:St M h0 h L G){i:Nat}(d:L[i]? =some (b,.map es c))(g:E.und t=some (.map kt el))(j:E.und kt=some (.int .i64))(m:dG es c f)(v:Value):
 ∃a,dD E h t (.map (some b)) (.int .i64 x) v=some a/\Mo (· =b) h a/\ ∃es' c',dG es' c' (dR f x (some v))/\St M h0 a (L.set i (b,.map es' c')) G:=by
 have e:h.get b=some (.map es c):=(S.own _ (Xa d)).2
 obtain⟨es',c',l,k⟩:=m.put (x:=x) v
 refine⟨h.put b (.map es' c'),?_,(Mo.refl (M:=(· =b)) S.ok).put (.inr rfl) _,es',c',k,S.put d (o':=.map es' c') (lW e)⟩
 simp only [dD,iG,g,qK j,cond_true,e]
 grind
theorem St.mdelI(S:St M h0 h L G){i:Nat}(d:L[i]? =some (b,.map es c))(j:E.und t=some (.map kt el))(k:E.und kt=some (.int .i64))(m:dG es c f):
 ∃a,lK E h t (.map (some b)) (.int .i64 x)=some a/\Mo (· =b) h a/\ ∃es' c',dG es' c' (dR f x none)/\St M h0 a (L.set i (b,.map es' c')) G:=by
 have g:h.get b=some (.map es c):=(S.own _ (Xa d)).2
 refine⟨h.put b (.map (jP (.int .i64 x) es) c),?_,(Mo.refl (M:=(· =b)) S.ok).put (.inr rfl) _,_,c,m.del (x:=x),S.put d (o':=.map _ c) (lW g)⟩
 simp only [lK,iG,j,qK k,cond_true,g]
 cases hf:f x with
 |none=>rw [m.miss hf]
 |some v=>obtain⟨n,e⟩:=m.hit hf;rw [e]
theorem St.mentI(S:St M h0 h L G){i:Nat}(d:L[i]? =some (b,.map es c))(g:E.und t=some (.map kt el))(j:E.und kt=some (.int .i64)){z:Value}(k:E.zeroV el=some z)(m:dG es c f):
 ∃ a n,ip E h t (.map (some b)) (.int .i64 x)=some (a,.tuple #[(f x).getD z,.int .i64 (Int.ofNat n)])/\Mo (· =b) h a/\ ∃es' c',dG es' c' (dR f x (some ((f x).getD z)))/\St M h0 a (L.set i (b,.map es' c')) G/\
   ∀w,∃es2,fD n w es'=some es2/\dG es2 c' (dR f x (some w)):=by
 have e:h.get b=some (.map es c):=(S.own _ (Xa d)).2
 obtain⟨es',c',n,p,l,o⟩:=m.ent (x:=x) z
 refine⟨h.put b (.map es' c'),n,?_,(Mo.refl (M:=(· =b)) S.ok).put (.inr rfl) _,es',c',l,S.put d (o':=.map es' c') (lW e),o⟩
 simp only [ip,iG,g,qK j,cond_true,e,k]
 grind
theorem St.mstoreI(S:St M h0 h L G){i n:Nat}(d:L[i]? =some (b,.map es c)){w:Value}{es2:List (Value×Value×Nat)}(g:fD n w es=some es2):
 ∃a,kU h (.map (some b)) (.int .i64 (Int.ofNat n)) w=some a/\Mo (· =b) h a/\St M h0 a (L.set i (b,.map es2 c)) G:=by
 have e:h.get b=some (.map es c):=(S.own _ (Xa d)).2
 refine⟨h.put b (.map es2 c),?_,(Mo.refl (M:=(· =b)) S.ok).put (.inr rfl) _,S.put d (o':=.map es2 c) (lW e)⟩
 simp only [kU,e,ic,g]
end
end Go.Ab

end
section
namespace Go.Ab
def kX(x:Hd):List Value:=[.int .i64 x.id,.int .i64 x.key]
theorem jU(x:Hd):(kX x).length=2:=rfl
structure dK(cs:List Value)(cap:Nat)(l:List Hd):Prop where
 len:cs.length=cap*2
 le:l.length<=cap
 at0: ∀i,i<l.length->cs[i*2]? =some (.int .i64 (l.getD i default).id)/\cs[i*2+1]? =some (.int .i64 (l.getD i default).key)
def jT(f:Int->Option Value)(l:List Hd):Prop:=(∀i,i<l.length->f (l.getD i default).id=some (.int .i64 i))/\ ∀x v,f x=some v-> ∃i,i<l.length/\x=(l.getD i default).id
section
variable{h:Hp}{bl cap i:Nat}{cs:List Value}{l:List Hd}{md:Nat}
theorem dK.ld0(c:dK cs cap l)(r:Row h bl cs md)(a:i<l.length):h.load bl (i*2) 1=some [.int .i64 (l.getD i default).id]:=r.load1 (c.at0 i a).1
theorem dK.ld1(c:dK cs cap l)(r:Row h bl cs md)(a:i<l.length):h.load bl (i*2+1) 1=some [.int .i64 (l.getD i default).key]:=r.load1 (c.at0 i a).2
theorem dK.ld2(c:dK cs cap l)(r:Row h bl cs md)(a:i<l.length):h.load bl (i*2) 2=some [.int .i64 (l.getD i default).id,.int .i64 (l.getD i default).key]:=by
 have d:=(c.at0 i a).1
 have b:=(c.at0 i a).2
 have e:=(List.getElem?_eq_some_iff.1 b).1
 rw [r.load (by omega)]
 grind[List.drop_eq_getElem_cons,List.getElem?_eq_some_iff]
theorem ut{x y:Value}(a:i*2+2<=cs.length)(j:Nat):(lay cs (i*2) [x,y])[j]? =if j=i*2 then some x else if j=i*2+1 then some y else cs[j]? :=by
 rw [jn (by simpa using a)]
 grind
theorem dK.set(c:dK cs cap l)(d:i<l.length)(x:Hd):dK (lay cs (i*2) [.int .i64 x.id,.int .i64 x.key]) cap (l.set i x):=by
 have f:=c.len
 have hle:=c.le
 have a:i*2+2<=cs.length:=by omega
 refine⟨by grind[oG],by grind,fun j b=>?_⟩
 rw [XO]at b
 rw [ut a,ut a,pG]
 by_cases e:i=j
 . grind
 . rw [if_neg (by omega),if_neg (by omega),if_neg (by omega),if_neg (by omega),if_neg (by omega)]
   exact c.at0 j b
theorem dK.setKey(c:dK cs cap l)(a:i<l.length)(k:Int):dK (lay cs (i*2+1) [.int .i64 k]) cap (l.set i ⟨(l.getD i default).id,k⟩):=by
 have d:=c.len
 have hle:=c.le
 have e:lay cs (i*2+1) [.int .i64 k]=lay cs (i*2) [.int .i64 (l.getD i default).id,.int .i64 k]:=by
  refine Xh fun j=>?_
  rw [ut (by omega),jn (by simp;omega)]
  simp only [List.length_cons,List.length_nil]
  by_cases b:j=i*2
  . subst b;rw [if_neg (by omega),if_pos rfl];exact(c.at0 i a).1
  grind
 rw [e]
 exact c.set a ⟨(l.getD i default).id,k⟩
end
theorem set_sw(l:List Hd)(i k:Nat):(l.set i (l.getD k default)).set k (l.getD i default)=sw l i k:=rfl
theorem jT.inj{f:Int->Option Value}{l:List Hd}(h:jT f l){i j:Nat}(a:i<l.length)(b:j<l.length)(e:(l.getD i default).id=(l.getD j default).id):i=j:=by
 have c:=h.1 i a
 have d:=h.1 j b
 grind
theorem jT.swap{f:Int->Option Value}{l:List Hd}(h:jT f l){i k:Nat}(a:i<l.length)(c:k<l.length):
 jT (dR (dR f ((sw l i k).getD i default).id (some (.int .i64 i))) ((sw l i k).getD k default).id (some (.int .i64 k))) (sw l i k):=by
 have o:=iD l a c i
 have p:=iD l a c k
 rw [if_pos rfl]at p
 refine⟨fun j b=>?_,fun x v n=>?_⟩
 . rw [gK]at b
   have d:=iD l a c j
   unfold dR
   by_cases g:j=k
   . grind
   . rw [if_neg g]at d
     by_cases m:j=i
     . subst m
       rw [if_neg,if_pos rfl]
       rw [if_neg g,if_pos rfl]at o
       rw [o,p]
       intro e
       exact g (h.inj c a (by omega)).symm
     . rw [if_neg m]at d
       rw [if_neg,if_neg]
       . rw [d];exact h.1 j b
       . rw [d,o]
         intro e
         split at e
         . exact m (h.inj b a (by omega))
         . rename_i e3;rw [if_pos rfl]at e;exact g (h.inj b c (by omega))
       . rw [d,p]
         intro e
         exact m (h.inj b a (by omega))
 . unfold dR at n
   by_cases g:x=((sw l i k).getD k default).id
   . grind[gK]
   . rw [if_neg g]at n
     by_cases m:x=((sw l i k).getD i default).id
     . grind[gK]
     . rw [if_neg m]at n
       obtain⟨j,b,e⟩:=h.2 x v n
       refine⟨j,by rw [gK];exact b,?_⟩
       have d:=iD l a c j
       grind
structure eY(h:Hp)(bh bl bm cap:Nat)(n:Int)(l:List Hd):Prop where
 row:Row h bh [.slice (some ⟨bl,0,some 2⟩) l.length cap,.map (some bm),.int .i64 n] 1
 ex: ∃cs es c f,Row h bl cs 1/\h.get bm=some (.map es c)/\dK cs cap l/\dG es c f/\jT f l
 ne:bh≠bl/\bh≠bm/\bl≠bm
theorem eY.mo{M:Nat->Prop}{h k:Hp}{e i j cap:Nat}{n:Int}{l:List Hd}(r:eY h e i j cap n l)(g:Mo M h k)(p: ¬M e)(q: ¬M i)(s: ¬M j):eY k e i j cap n l:=by
 obtain⟨t,m,c,f,a,b,d⟩:=r.ex
 exact⟨g.has (o:=.row _ 1) r.row p,⟨t,m,c,f,g.has (o:=.row _ 1) a q,g.has (o:=.map m c) b s,d⟩,r.ne⟩
theorem eY.mo1{M:Nat->Prop}{h f:Hp}{a b d cap:Nat}{n:Int}{l:List Hd}(r:eY h a b d cap n l)(g:Mo M h f)(e: ∀c,c=a\/c=b\/c=d-> ¬M c):eY f a b d cap n l:=
 r.mo g (e _ (.inl rfl)) (e _ (.inr (.inl rfl))) (e _ (.inr (.inr rfl)))
theorem eY.lt{h:Hp}(e:h.t.Sized h.n){g i j cap:Nat}{n:Int}{l:List Hd}(r:eY h g i j cap n l): ∀c,c=g\/c=i\/c=j->c<h.n:=by
 obtain⟨k,m,c,f,a,b,d⟩:=r.ex
 rintro c (rfl|rfl|rfl)
 . exact r.row.lt e
 . exact a.lt e
 . exact gy e b
theorem eY.gr{h a:Hp}{b c d cap:Nat}{n:Int}{l:List Hd}(r:eY h b c d cap n l)(g:Gr h a):eY a b c d cap n l:=r.mo (M:=NoM) g.fr (fun h=>h) (fun h=>h) (fun h=>h)
theorem St.init2{M:Nat->Prop}{h:Hp}(c:h.t.Sized h.n){b1 a:Nat}{o1 o2:Ob}(d:Has h b1 o1)(e:Has h a o2)(b:b1≠a)(m1:M b1)(m2:M a):St M h h [(b1,o1),(a,o2)] []:=by
 refine⟨Mo.refl c,fun p f=>?_,fun _ h=>(by cases h),by simp [keys,b]⟩
 grind
theorem St.init3{M:Nat->Prop}{h:Hp}(c:h.t.Sized h.n){b1 a b:Nat}{o1 o2 o3:Ob}(g:Has h b1 o1)(i:Has h a o2)(j:Has h b o3)(d:b1≠a)(e:b1≠b)(f:a≠b)(m1:M b1)(m2:M a)(m3:M b):St M h h [(b1,o1),(a,o2),(b,o3)] []:=by
 refine⟨Mo.refl c,fun p k=>?_,fun _ h=>(by cases h),by simp [keys,d,e,f]⟩
 grind
end Go.Ab

end
section
namespace Go.Ab
theorem jT.push{f:Int->Option Value}{l:List Hd}(h:jT f l){x:Hd}(c:x.id∉l.map Hd.id):jT (dR f x.id (some (.int .i64 l.length))) (l++[x]):=by
 refine⟨fun i b=>?_,fun y v a=>?_⟩
 . unfold dR
   simp at b
   by_cases e:i=l.length
   . grind
   . rw [mY l _ (by omega),if_neg ?_]
     . exact h.1 i (by omega)
     grind
 . unfold dR at a
   by_cases e:y=x.id
   . refine⟨l.length,by simp,?_⟩
     grind
   . rw [if_neg e]at a
     obtain⟨i,b,d⟩:=h.2 y v a
     exact⟨i,by simp;omega,by grind⟩
theorem jT.cut{f:Int->Option Value}{l:List Hd}(h:jT f l){m:Nat}(c:l.length=m+1):jT (dR f (l.getD m default).id none) (l.take m):=by
 refine⟨fun i b=>?_,fun y v a=>?_⟩
 . rw [Xp]at b
   rw [getD_take l (by omega)]
   unfold dR
   rw [if_neg ?_]
   . exact h.1 i (by omega)
   . intro e
     have:=h.inj (i:=i) (j:=m) (by omega) (by omega) (by omega)
     omega
 . unfold dR at a
   by_cases e:y=(l.getD m default).id
   . grind
   . rw [if_neg e]at a
     obtain⟨i,b,d⟩:=h.2 y v a
     have:i≠m:=fun e3=>by grind
     exact⟨i,by grind,by grind⟩
theorem jT.setKey{f:Int->Option Value}{l:List Hd}(h:jT f l){i:Nat}(k:Int):jT f (l.set i ⟨(l.getD i default).id,k⟩):=by
 have e: ∀j,((l.set i ⟨(l.getD i default).id,k⟩).getD j default).id=(l.getD j default).id:=fun j=>by
  grind
 refine⟨fun j a=>?_,fun y v b=>?_⟩
 . rw [e];exact h.1 j (by grind)
 . obtain⟨j,a,c⟩:=h.2 y v b
   grind
theorem idxF_nil:jT (fun _=>none) []:=⟨fun i a=>by simp at a,fun x v h=>by cases h⟩
theorem dK.take{cs:List Value}{cap:Nat}{l:List Hd}(c:dK cs cap l)(m:Nat):dK cs cap (l.take m):=
 ⟨c.len,Xo (by grind) c.le,fun i a=>by
  rw [Xp]at a
  rw [getD_take l (by omega)]
  exact c.at0 i (by omega)⟩
theorem dK.push{cs a:List Value}{cap cap':Nat}{l:List Hd}(c:dK cs cap l){x:Hd}(d:a.length=cap'*2)(g:l.length<cap')(b: ∀j,j<l.length*2->a[j]? =cs[j]?)(h:a[l.length*2]? =some (.int .i64 x.id)/\a[l.length*2+1]? =some (.int .i64 x.key)):dK a cap' (l++[x]):=by
 refine⟨d,by simp;omega,fun i f=>?_⟩
 simp at f
 by_cases e:i=l.length
 . grind
 . rw [mY l _ (by omega),b _ (by omega),b _ (by omega)]
   exact c.at0 i (by omega)
theorem An{E:Env}{t e:TypeId}{b k len cap n:Nat}{kd:IntKind}(c:E.und t=some (.slice e))(d:E.sz e=some k)(f:n<=cap):fg E t (.slice (some ⟨b,0,some k⟩) len cap) none (some (.int kd (n:Int))) none=some (.slice (some ⟨b,0,some k⟩) n cap):=by
 have a: ∀n:Nat,ic (n:Int)=some n:=fun n=>rfl
 simp_all[fg,eW,eQ,Xb,cond_true,Xw,cond_false,XY]
section
variable{M:Nat->Prop}{h0 h:Hp}{L:List (Nat×Ob)}{G:List GL}{E:Env}{t tx e:TypeId}{by_:Nat}{zs:List Value}
theorem St.appH{d cap:Nat}{cs:List Value}{l:List Hd}(S:St M h0 h ((d,.row cs 1)::L) G)(C:dK cs cap l)(H:E.und t=some (.slice e))(I:dZ E e by_ 2 zs)(R:0<by_)(J:by_<=100)(r:dJ E tx=some false){x:Hd}{z:Value}(f:aJ h 2 z=some (1,kX x))(U:l.length<1000000){ts:List TypeId}:
 ∃A w,dg E h (t::tx::ts) (.slice (some ⟨d,0,some 2⟩) l.length cap) z=some (A,w)/\ ∃a cap' g,w=.slice (some ⟨a,0,some 2⟩) (l.length+1) cap'/\St M h0 A ((a,.row g 1)::L) G/\dK g cap' (l++[x])/\(a=d\/h.n<=a):=by
 obtain⟨⟨i,K,rfl,c⟩,N,s⟩:=I
 have B:Row h d cs 1:=S.row m0
 have D:=C.len
 by_cases V:l.length+1<=cap
 . obtain⟨y,W,O⟩:=B.store S.ok ono (o:=l.length*2) (vs:=kX x) (by rw [jU];omega) rfl
   refine⟨h.put d y,_,?_,d,cap,_,rfl,S.put (i:=0) rfl O,?_,.inl rfl⟩
   . simp_all[dg,jv,eS,Xb,cond_true,kX,Xg]
   . refine C.push (by grind[oG,jU]) (by omega) (fun j P=>?_) ⟨?_,?_⟩
     . rw [jn (by rw [jU];omega),if_neg (by omega)]
     . rw [jn (by rw [jU];omega),if_pos ⟨Xy _,by rw [jU];omega⟩,Nat.sub_self];rfl
     . rw [jn (by rw [jU];omega),if_pos ⟨by omega,by rw [jU];omega⟩,Nat.add_sub_cancel_left];rfl
 . have F:cap=l.length:=by have:=C.le;omega
   obtain⟨q,el,k,m,Q⟩:=B
   have u:jg q cs.length 0 (l.length*2) (kX x)=some (q.pushAll cs.length (kX x),cs.length+2):=by
    unfold jg
    rw [show l.length*2=cs.length by omega,XX,XX];rfl
   have T:=S.dead.new (x:=.cells (q.pushAll cs.length (kX x)) (cs.length+2) e 1) (o:=.row (cs++kX x) 1) (by
    refine⟨q.pushAll cs.length (kX x),e,?_,?_,fun n=>?_⟩
    . rw [Hp.get_new _ _ S.dead.ok,if_pos rfl,Xv];rfl
    . rw [Xv];exact Tr.sized_pushAll _ m
    grind[Tr.get_pushAll])
   refine⟨_,.slice (some ⟨h.n,0,some 2⟩) (l.length+1) (l.length+1),?_,h.n,l.length+1,_,rfl,T,?_,.inr (Xy _)⟩
   . simp only [dg,r,jv,H,K,c,f]
     unfold eS
     have p:XB (l.length+1) cap=false:=by
      cases r:XB (l.length+1) cap with
      |false=>rfl
      |true=>exact absurd (lbt r) (by omega)
     rw [p]
     simp only [cond_false]
     have b:(XB ((l.length+1)*(i.bytes+1)) 70368744177664&&Nat.blt 0 i.bytes)=true:=by
      have:(l.length+1)*(i.bytes+1)<=1000000*101:=Nat.mul_le_mul (by omega) (by omega)
      rw [Xb (by omega)]
      simp_all
     have v:XC zs.length i.size=true:=by rw [s,c];rfl
     rw [b,N]
     simp only [cond_true,v]
     unfold ns
     simp only [k,c,u]
     rfl
   . refine C.push (by rw [Xv,jU];omega) (by omega) (fun j P=>?_) ⟨?_,?_⟩
     . grind
     . rw [zO (by omega),show l.length*2-cs.length=0 by omega];rfl
     . rw [zO (by omega),show l.length*2+1-cs.length=1 by omega];rfl
theorem St.appH0(S:St M h0 h L G)(p:E.und t=some (.slice e))(q:dZ E e by_ 2 zs)(v:0<by_)(r:by_<=100)(s:dJ E tx=some false){x:Hd}{m:Value}(d:aJ h 2 m=some (1,kX x)){ts:List TypeId}:
 ∃n w,dg E h (t::tx::ts) (.slice none 0 0) m=some (n,w)/\ ∃b cap' f,w=.slice (some ⟨b,0,some 2⟩) 1 cap'/\St M h0 n ((b,.row f 1)::L) G/\dK f cap' [x]/\h.n<=b:=by
 obtain⟨⟨i,j,rfl,c⟩,u,k⟩:=q
 have T:=S.new (x:=.cells (Tr.ofList (kX x)) 2 e 1) (o:=.row (kX x) 1) (pq S.ok (kX x) e 1)
 refine⟨_,.slice (some ⟨h.n,0,some 2⟩) 1 1,?_,h.n,1,_,rfl,T,⟨rfl,by simp,fun i j=>?_⟩,Xy _⟩
 . simp only [dg,s,jv,p,j,c,d]
   unfold eS
   have g:XB (0+1) 0=false:=rfl
   rw [g]
   simp only [cond_false]
   have a:(XB ((0+1)*(i.bytes+1)) 70368744177664&&Nat.blt 0 i.bytes)=true:=by
    rw [Xb (by omega)]
    simp_all
   have l:XC zs.length i.size=true:=by rw [k,c];rfl
   rw [a,u]
   simp only [cond_true,l]
   unfold ns
   rw [show XC 0 0=true from rfl,c]
   rfl
 . have:i=0:=by simpa using j
   subst this;exact⟨rfl,rfl⟩
theorem St.rowS{i b d n cap c:Nat}{N:Int}{cs:List Value}{g:List (Value×Value×Nat)}{l:List Hd}{f:Int->Option Value}(S:St M h0 h [(b,.row cs 1),(i,.row [.slice (some ⟨b,0,some 2⟩) n cap,.map (some d),.int .i64 N] 1),(d,.map g c)] [])(C:dK cs cap l)(j:n=l.length)(k:dG g c f)(m:jT f l):eY h i b d cap N l:=by
 subst j
 have a:=S.apart
 simp only [keys,Xz,List.map_nil,List.filterMap_nil,List.append_nil,XE,XA,XK,or_false,not_or]at a
 exact⟨S.row m1,⟨cs,g,c,f,S.row m0,(S.own _ m2).2,C,k,m⟩,fun e=>a.1.1 e.symm,a.2.1,a.1.2⟩
end
theorem jY{ρ:Operand->Value}{b:Bool}{t:TypeId}{a v:Operand}{h c:Hp}:cd ρ b (.store t a v) h c=(match ρ a with| .pointer (some a)=>some (.blk a.block)|_=>none):=by
 simp only [cd,dA,iN,dY,touch,cond_false]
 grind
theorem yW{ρ:Operand->Value}{b:Bool}{x:Operand}{ts:Array TypeId}{h c:Hp}:cd ρ b (.call ⟨.builtin .len,#[x],ts⟩) h c=(match ρ x with| .map (some r)=>some (.blk r)| .slice (some a) _ _=>some (.blk a.block)|_=>none):=by
 simp only [cd,dA,iN,dY,touch,cond_false]
 grind
theorem dn_del{E:Env}{cx:Cx}{Q:eF}{a:List Oper}{q:Nat}{ps:List (Nat×Nat)}{o:Oper}{os:List Oper}{i:Nat}{k:List Fr}{l:Loc}{c:Hp->List (Nat×Tch)}{h:Hp}{t:TypeId}{m key:Value}{P:Hp->Prop}(d: ∃b,lK E h t m key=some b/\P b)
 (f: ∀b,P b->Run E (lim E) cx Q (.opsD a q ps os (i+1) (c b)::k) .normal (l.put o.dst (.tuple #[])) b):DN E cx Q a q ps o os i k l c (delR E h t m key):=by
 obtain⟨b,e,g⟩:=d
 unfold delR
 rw [e]
 exact f b g
structure c6(h:Hp)(F:List Nat)(p:Value)(N:Nat)(K:Nat->Option Int):Prop where
 ex: ∃bh bm l,p=ptrTo bh/\lG l/\hU l K/\(∀x∈l,x.id<N)/\
  ((l=[]/\F=[bh,bm]/\bh≠bm/\Row h bh [.slice none 0 0,.map (some bm),.int .i64 N] 1/\ ∃es c,h.get bm=some (.map es c)/\dG es c (fun _=>none))\/ ∃bl cap,F=[bh,bl,bm]/\eY h bh bl bm cap N l)
theorem c6.mo{M:Nat->Prop}{h i:Hp}{F:List Nat}{p:Value}{N:Nat}{K:Nat->Option Int}(a:c6 h F p N K)(g:Mo M h i)(d: ∀b∈F,¬M b):c6 i F p N K:=by
 obtain⟨m,n,l,e,q,r,s,t⟩:=a.ex
 refine⟨m,n,l,e,q,r,s,?_⟩
 rcases t with⟨u,rfl,v,w,j,c,x,y⟩|⟨z,f,rfl,k⟩
 . exact .inl ⟨u,rfl,v,g.has (o:=.row _ 1) w (d _ (by simp)),j,c,g.has (o:=.map j c) x (d _ (by simp)),y⟩
 . exact .inr ⟨z,f,rfl,k.mo g (d _ (by simp)) (d _ (by simp)) (d _ (by simp))⟩
theorem c6.gr{h b:Hp}{F:List Nat}{p:Value}{N:Nat}{K:Nat->Option Int}(a:c6 h F p N K)(g:Gr h b):c6 b F p N K:=a.mo (M:=NoM) g.fr (fun _ _ h=>h)
theorem c6.lt{h:Hp}(f:h.t.Sized h.n){F:List Nat}{p:Value}{N:Nat}{K:Nat->Option Int}(a:c6 h F p N K): ∀b∈F,b<h.n:=by
 obtain⟨n,o,l,e,q,r,s,g⟩:=a.ex
 rcases g with⟨t,rfl,u,i,v,c,j,w⟩|⟨x,m,rfl,k⟩
 . intro b d
   simp at d
   rcases d with rfl|rfl
   . exact i.lt f
   . exact gy f j
 . intro b d
   simp at d
   exact k.lt f b d
theorem uu{l:List Hd}{K:Nat->Option Int}(h:hU l K){N:Nat}(a: ∀x∈l,x.id<N):l.length<=N:=by
 have:=pL N (l.map Hd.id) h.1 (fun x b=>by grind)
 simpa using this
end Go.Ab

end
section
namespace Go.Ab
def lS(E:Env)(g:FuncId)(a post:List Value)(h0:Hp)(D:Nat->Prop)(xs:List (List Value)):Prop:=
 ∀b J Z,(∀v h,¬Z (.pan v) h)->Yld E b J Z xs-> ∀h F,ItS h0 D h F->J 0 h F->fK E g (a++[.func (.yield b) #[] #[]]++post) none h (YQ J Z xs.length)
theorem iter_useN{E:Env}{g:FuncId}{a post:List Value}{h0:Hp}{D:Nat->Prop}{xs:List (List Value)}(H:lS E g a post h0 D xs){c:Nat}{J:Nat->Hp->List Nat->Prop}{Z:Out->Hp->Prop}(i: ∀v h,¬Z (.pan v) h)(Y:Yld E c J Z xs)
 {h:Hp} {F:List Nat} (d:Mo (fun b=> ¬D b) h0 h) (j: ∀b∈F,b<h0.n-> ¬D b) (f:J 0 h F):fK E g (a++[.func (.yield c) #[] #[]]++post) none h (YQ J Z xs.length):=
 H c J Z i Y h F ⟨d.ok,d.n,fun b e k=>d.get b e (fun l=>l k),fun b e h=>j b e h.1 h.2,(Y.lt 0 h F f).2⟩ f
theorem dn_yield{E:Env}{cx:Cx}{Q:eF}{a:List Oper}{q:Nat}{ps:List (Nat×Nat)}{o:Oper}{os:List Oper}{i:Nat}{k:List Fr}{l:Loc}{e:Hp->List (Nat×Tch)}{h0 h:Hp}{D:Nat->Prop}{f j:Nat}{J:Nat->Hp->List Nat->Prop}{Z:Out->Hp->Prop}{xs:List (List Value)}{x:List Value}{F:List Nat}
 (u: ∀v h,¬Z (.pan v) h) (Y:Yld E f J Z xs) (s:ItS h0 D h F) (g:J j h F) (m:xs[j]? =some x)
 (n: ∀d F',J (j+1) d F'->ItS h0 D d F'->Mo (· ∈F) h d->(∀b∈F',b∈F\/h.n<=b)->Run E (lim E) cx Q (.opsD a q ps os (i+1) (e d)::k) .normal (l.put o.dst (.bool true)) d)
 (k2: ∀d,Z (.ret (.bool false)) d->d.t.Sized d.n->Run E (lim E) cx Q (.opsD a q ps os (i+1) (e d)::k) .normal (l.put o.dst (.bool false)) d):DN E cx Q a q ps o os i k l e (some (.yield f x,h)):=by
 obtain⟨p,d,r,t⟩:=Y.round j x h F m g
 refine⟨p,d,r,?_⟩
 rcases t with⟨rfl,F',a,b,c⟩|⟨rfl,a,b⟩|⟨⟨v,rfl⟩,a⟩
 . exact n d F' a (s.mo b c (Y.lt _ _ _ a).2) b c
 . exact k2 d a b
 grind
def dW(h a:Hp):Prop:= ∀b,b<h.n->a.get b=h.get b
theorem dW.load{h a:Hp}(c:h.t.Sized h.n)(g:dW h a){b o n:Nat}{l:List Value}(e:h.load b o n=some l):a.load b o n=some l:=by
 have:=g b (a8 c e)
 grind[Hp.load]
theorem dW.row{h a:Hp}(c:h.t.Sized h.n)(g:dW h a){b:Nat}{l:List Value}{md:Nat}(r:Row h b l md):Row a b l md:=Row.of_get (g b (r.lt c)) r
theorem ar.keep{a:Type}{h d:Hp}{k:Nat}{enc:a->List Value}{v:Value}{xs:List a}(e:h.t.Sized h.n)(g:dW h d)(s:ar h k enc v xs):ar d k enc v xs:=by
 rcases s with s|⟨b,o,s,c,f,i,j⟩
 . exact .inl s
 . exact .inr ⟨b,o,s,c,f,i,g.load e j⟩
theorem gb.keep{h d:Hp}{v:Value}{m N:Nat}{R:Nat->List Nat}(e:h.t.Sized h.n)(g:dW h d)(r:gb h m v N R):gb d m v N R:=by
 obtain⟨f,j,k,l,n,o,p⟩:=r
 exact⟨f,j,k,l,g.row e n,o,fun i q=>by
  obtain⟨w,a,b,c⟩:=p i q
  exact⟨w,a,b.keep e g,c⟩⟩
theorem aS.keep{h d:Hp}{m:Nat}{p:Value}{e:Gra}(a:h.t.Sized h.n)(g:dW h d)(n:aS h m p e):aS d m p e:=by
 obtain⟨b,f,i,j,k,l,o,q,c,r,s,t,u⟩:=n.ex
 exact⟨b,f,i,j,k,l,o,g.row a q,⟨c.X.keep a g,c.Y.keep a g,c.A.keep a g⟩,r.keep a g,s.keep a g,t,u⟩
theorem Gr.keep{h a:Hp}(g:Gr h a):dW h a:=g.get
theorem dW.trans{a b c:Hp}(x:dW a b)(n:a.n<=b.n)(y:dW b c):dW a c:=fun i d=>(y i (Nat.lt_of_lt_of_le d n)).trans (x i d)
theorem ItS.keep{hq h0 h:Hp}{D:Nat->Prop}{F:List Nat}(s:ItS h0 D h F)(g:dW hq h0)(n:hq.n<=h0.n)(d: ∀c,c<hq.n->D c):dW hq h:=fun b a=>(s.data b (Nat.lt_of_lt_of_le a n) (d b a)).trans (g b a)
theorem vk{n:Int}(a:0<=n)(b:n<18446744073709551616):an .u64 n=n:=by
 obtain⟨m,rfl⟩:=Int.eq_ofNat_of_zero_le a
 grind[an,hf,sgn,pw,Nat.blt,Nat.blt_eq]
theorem b_andU{E:Env}{t:TypeId}{x y:Operand}{N:Nat}(h:N<4294967296):bH E .and t x y (.int .u64 (N:Int)) (.int .u64 4294967295)=some (.int .u64 (N:Int)):=by
 have a:Nat.blt N 18446744073709551616=true:=by rw [Nat.blt_eq];omega
 have b:Nat.land N 4294967295=N:=by
  have:=Nat.and_two_pow_sub_one_eq_mod N 32
  simp_all
 have e3:=vk (n:=(N:Int)) (by omega) (by omega)
 have c:ky .and .u64 (.ofNat N) (.ofNat 4294967295)=some (an .u64 (.ofNat (Nat.land N 4294967295))):=by
  simp only [ky,pw]
  rw [a];rfl
 show(ky .and .u64 (.ofNat N) (.ofNat 4294967295)).map _=_
 grind
theorem b_shrU{E:Env}{t:TypeId}{x y:Operand}{kd:IntKind}{N:Nat}(h:N<4294967296):bH E .shr t x y (.int .u64 (N:Int)) (.int kd 32)=some (.int .u64 0):=by
 have e:N/Nat.pow 2 (bif XB 32 (bitsOf .u64)then 32 else bitsOf .u64)=0:=by
  show N/4294967296=0
  omega
 show(sb .shr .u64 (.ofNat N) (.ofNat 32)).map _=_
 show some (Value.int .u64 (.ofNat (N/Nat.pow 2 (bif XB 32 (bitsOf .u64)then 32 else bitsOf .u64))))=_
 rw [e];rfl
end Go.Ab

end
section
namespace Go.Ab
theorem yn{E:Env}{t e:TypeId}{b n N:Nat}{kd:IntKind}(c:E.und t=some (.slice e))(d:E.sz e=some 1)(f:n<N):fg E t (.slice (some ⟨b,0,none⟩) N N) (some (.int kd (n:Int))) none none=some (.slice (some ⟨b,n,none⟩) (N-n) (N-n)):=by
 have a: ∀n:Nat,ic (n:Int)=some n:=fun n=>rfl
 have g:XC N n=false:=by
  cases h:XC N n with
  |false=>rfl
  |true=>have:=XR h;omega
 simp only [fg,c,eW,eQ,a,Xb (Nat.le_of_lt f),cond_true,d,Xw,cond_false,g,fN,Xn,Xg]
theorem xj{E:Env}{t e:TypeId}{b n N k:Nat}{kd:IntKind}(c:E.und t=some (.slice e))(d:E.sz e=some k)(f:n<=N):fg E t (.slice (some ⟨b,0,none⟩) N N) none (some (.int kd (n:Int))) none=some (.slice (some ⟨b,0,none⟩) n N):=by
 have a: ∀n:Nat,ic (n:Int)=some n:=fun n=>rfl
 simp only [fg,c,eW,eQ,a,Xb f,cond_true,d,Xw,cond_false,fN,Xj,XZ,XY]
 cases XC N 0<;>rfl
section
variable{M:Nat->Prop}{h0 h:Hp}{L:List (Nat×Ob)}{G:List GL}{E:Env}{t e:TypeId}
theorem St.copyO(S:St M h0 h L G){i b o len cap f o2 m n:Nat}{p c:Option Nat}{cs l:List Value}(g:L[i]? =some (b,.row cs 1))(q:E.und t=some (.slice e))(r:E.sz e=some 1)(v:0<df m len)(j:h.load f o2 (df m len*1)=some l)(d:o+l.length<=cs.length)(hf:l.all kM=true){ts:List TypeId}:
 ∃k w,copyV E h (t::ts) (.slice (some ⟨b,o,p⟩) len cap) (.slice (some ⟨f,o2,c⟩) m n)=some (k,w)/\w=.int .i64 (df m len:Nat)/\St M h0 k (L.set i (b,.row (lay cs o l) 1)) G:=by
 obtain⟨y,s,u⟩:=(S.row (Xa g)).store S.ok ono (o:=o) (vs:=l) d hf
 have a:=load_len j
 refine⟨h.put b y,_,?_,rfl,S.put g u⟩
 simp only [copyV,q,r,j]
 cases l with
 |nil=>simp at a;omega
 |cons x z=>simp only [s];rfl
end
theorem jt{a b:Nat}(h:a<=b):df a b=a:=by unfold df;rw [Xb h];rfl
theorem sY{a b:Nat}(h:b<=a):df a b=b:=by
 unfold df
 cases c:XB a b with
 |false=>rfl
 |true=>have:=lbt c;show a=b;omega
theorem tD{X Z:Value}{n c k:Nat}(e:c<=k):lay (Xq n X++Xq k Z) n (Xq c X)=Xq (n+c) X++Xq (k-c) Z:=by
 refine Xh fun j=>?_
 rw [jn (by simp;omega),XD,XU,XU,XD,XD,Xi,Xi,Xi,Xi,Xi]
 by_cases a:j<n
 . rw [if_neg (by omega),if_pos a,if_pos a,if_pos (by omega),if_pos (by omega)]
 . by_cases b:j<n+c
   . rw [if_pos (by omega),if_pos (by omega),if_pos b,if_pos b]
   . rw [if_neg (by omega),if_neg a,if_neg b]
     by_cases d:j-n<k
     . rw [if_pos d,if_pos (by omega)]
     . rw [if_neg d,if_neg (by omega)]
theorem mQ(z:Value): ∀n,aV [z] n=Xq n z
 |0=>rfl
 |n+1=>by simp [aV,mQ z n,List.replicate_succ]
def ClF(O:List Nat)(f:Int->Option Value):Prop:= ∀u:Nat,f (u:Int)=if u∈O then some (.int .i64 1)else none
end Go.Ab

end
section
namespace Go.Ab
section
variable{M:Nat->Prop}{h0 h h':Hp}{L L':List (Nat×Ob)}{G G':List GL}{Fh:List Nat}
theorem St.baseF(S:St M h0 h L G)(Fh:List Nat):St (fun c=>c∈keys L G\/c∈Fh) h h L G:=
 ⟨Mo.refl S.ok,fun p a=>⟨.inr (.inl (je a)),(S.own p a).2⟩,fun p a=>⟨(S.gown p a).1,fun b d=>.inr (.inl (gp a d))⟩,S.apart⟩
theorem St.rebaseF(S:St M h0 h L G)(e: ∀c∈Fh,h0.n<=c\/M c)(T:St (fun c=>c∈keys L G\/c∈Fh) h h' L' G'):St M h0 h' L' G':=by
 have f: ∀b,h.n<=b\/(b∈keys L G\/b∈Fh)->h0.n<=b\/M b:=fun b a=>a.elim (fun a=>.inl (Xo S.fr.n a)) (fun a=>a.elim S.key_own (e b))
 exact⟨S.fr.trans T.fr fun b a=>(a.elim S.key_own (e b)).symm,fun p d=>⟨f _ (T.own p d).1,(T.own p d).2⟩,fun p d=>⟨(T.gown p d).1,fun b a=>f b ((T.gown p d).2 b a)⟩,T.apart⟩
theorem St.callF(S:St M h0 h L G){i b:Nat}{o o':Ob}(l:L[i]? =some (b,o))(f:Mo (fun c=>c∈Fh\/c=b) h h')(m: ∀c∈Fh,(M c\/h0.n<=c)/\c∉keys L G)(r:Has h' b o'):St M h0 h' (L.set i (b,o')) G:=by
 have s:=S.own _ (Xa l)
 have g:(keys L G)[i]? =some b:=pg l
 refine⟨S.fr.trans f (fun c k=>by grind),fun p a=>?_,fun p a=>⟨(S.gown p a).1.of_get fun c k=>?_,(S.gown p a).2⟩,?_⟩
 . rcases li a with rfl|⟨j,n,a⟩
   . grind
   . have d:=S.own p (Xa a)
     refine⟨d.1,d.2.of_get (f.get _ (d.2.lt S.ok) fun e=>?_)⟩
     rcases e with e|e
     . exact(m _ e).2 (je (Xa a))
     . apply n
       have q:(keys L G)[j]? =some b:=by rw [pg a];rw [e]
       exact qc S.apart q g
 . refine f.get c ((S.gown p a).1.lt S.ok k) fun e=>?_
   rcases e with e|e
   . exact(m _ e).2 (gp a k)
   . subst e
     have d:=S.apart
     unfold keys at d
     rw [Xl]at d
     exact d.2.2 c (List.mem_map.2 ⟨_,Xa l,rfl⟩) c (List.mem_filterMap.2 ⟨p,a,k⟩) rfl
 . have:keys (L.set i (b,o')) G=keys L G:=by
    unfold keys
    congr 1
    rw [List.map_set]
    refine Xh fun j=>?_
    grind
   rw [this];exact S.apart
theorem St.stepF(S:St M h0 h L G)(f:Mo (· ∈Fh) h h')(b: ∀c∈Fh,(M c\/h0.n<=c)/\c∉keys L G):St M h0 h' L G:=
 S.step f (fun c a=>(b c a).1) (fun c a d=>(b c d).2 a)
theorem St.permL(S:St M h0 h L G)(p:L'.Perm L):St M h0 h L' G:=
 ⟨S.fr,fun x a=>S.own x (p.mem_iff.1 a),S.gown,by
  have:(keys L' G).Perm (keys L G):=(p.map Xk).append_right _
  exact this.nodup_iff.2 S.apart⟩
end
theorem St.mono{M M':Nat->Prop}{h0 h:Hp}{L:List (Nat×Ob)}{G:List GL}(S:St M h0 h L G)(c: ∀b,M b->M' b):St M' h0 h L G:=
 ⟨S.fr.mono c,fun p a=>⟨(S.own p a).1.imp (fun h=>h) (c _),(S.own p a).2⟩,fun p a=>⟨(S.gown p a).1,fun b d=>((S.gown p a).2 b d).imp (fun h=>h) (c _)⟩,S.apart⟩
theorem Dj.exm{B:List Arc}{s N:Nat}{O:List Nat}{D:Nat->Nat}{K:Nat->Option Int}{b ex':Arc->Prop}(d:Dj B s N O D K b)(h: ∀a∈B,b a->ex' a):Dj B s N O D K ex':=
 ⟨d.i1,d.i2,d.i2f,d.i3,fun a c e f=>d.i4 a c e (fun g=>f (h a c g)),d.i5,d.nd,d.lt⟩
def noteSl:Value->Option Tch
 | .map (some r)=>some (.blk r)
 | .slice (some a) _ _=>some (.blk a.block)
 |_=>none
theorem yJ{ρ:Operand->Value}{b:Bool}{x y:Operand}{ts:Array TypeId}{h a:Hp}:cd ρ b (.call ⟨.builtin .append,#[x,y],ts⟩) h a=noteSl (ρ x):=by
 simp only [cd,dA,iN,dY,touch,cond_false]
 cases ρ x<;>first|rfl|(rename_i x;cases x<;>rfl)|(rename_i x _ _;cases x<;>rfl)
theorem pair_x{x:Option Tch}:jh x none=true:=by
 cases x with
 |none=>rfl
 |some b=>cases b<;>rfl
theorem entry_nl{i:Nat}:cD i []=none:=rfl
end Go.Ab

end
section
namespace Go.Ab
def SlW(h:Hp)(kd:IntKind)(v:Value)(xs:List Int):Prop:=(v=.slice none 0 0/\xs=[])\/ ∃b o c,v=.slice (some ⟨b,o,none⟩) xs.length c/\xs.length<=c/\h.load b o (xs.length*1)=some (xs.flatMap (encI kd))
theorem SlW.sl{h:Hp}{kd:IntKind}{v:Value}{xs:List Int}(s:SlW h kd v xs):ar h 1 (encI kd) v xs:=s.imp (fun h=>h) (fun⟨b,o,c,a,d,e⟩=>⟨b,o,none,c,a,d,e⟩)
theorem SlW.low{E:Env}{h:Hp}{kd kd':IntKind}{t e:TypeId}{v:Value}{xs:List Int}(g:E.und t=some (.slice e))(j:E.sz e=some 1)(s:SlW h kd v xs){n:Nat}(a:n<=xs.length):
 ∃v',fg E t v none (some (.int kd' (n:Int))) none=some v'/\ar h 1 (encI kd) v' (xs.take n)/\ ∀c,aq v' c->aq v c:=by
 have f: ∀n:Nat,ic (n:Int)=some n:=fun n=>rfl
 rcases s with⟨rfl,rfl⟩|⟨b,o,c,rfl,k,q⟩
 . have:n=0:=by simpa using a
   subst this
   refine⟨.slice none 0 0,?_,.inl ⟨rfl,rfl⟩,fun c d=>d⟩
   simp only [fg,g,eW,eQ,f,j]
   rfl
 . refine⟨.slice (some ⟨b,o,none⟩) n c,?_,.inr ⟨b,o,none,c,?_,?_,?_⟩,fun c d=>d⟩
   . simp only [fg,g,eW,eQ,f,Xb (Xo a k),cond_true,j,Xw,cond_false,XY,fN,Xj,XZ]
     by_cases d:c=0
     . subst d;rfl
     . rw [show XC c 0=false by cases c with|zero=>exact absurd rfl d|succ c=>rfl];rfl
   . rw [Xp,XP a]
   . rw [Xp,XP a];exact Xo a k
   . rw [Xp,XP a]
     have:=mi q (i:=0) (m:=n*1) (by omega)
     rw [XZ,XH]at this
     rw [this]
     congr 1
     refine Xh fun i=>?_
     have p: ∀l:List Int,l.flatMap (encI kd)=l.map fun x=>.int kd x:=fun l=>by
      rw [XS,List.map_eq_flatMap,XS];rfl
     rw [p,p,Xn,List.map_take]
end Go.Ab

end
section
namespace Go.Ab
open Go.Proofs
set_option maxRecDepth 10000
def Z0:=aj t31<|r31
def Z1:=aj t166<|r166
def Z2:=aj t108<|r108
def Z3:=aj t7<|r7
def Z4:=aj t8<|r8
def Z5:=aj t117<|r117
def Z6:=aj t98<|r98
def Z7:=aj t252<|r252
def Z8:=aj t135<|r135
def Z9:=aj t57<|r57
def Z10:=aj t40<|r40
def Z11:=aj t254<|r254
def Z12:=aj t38<|r38
def Z13:=aj t81<|r81
def Z14:=aj t260<|r260
def Z15:=aj t13<|r13
def Z16:=aj t170<|r170
def Z17:=aj t233<|r233
def Z18:=aj t309<|r309
def Z19:=aj t299<|r299
def Z20:=aj t197<|r197
def Z21:=aj t19<|r19
def Z22:=aj t14<|r14
def Z23:=aj t26<|r26
def Z24:=aj t94<|r94
def Tryz.F0f:=aj t1<|aj t2<|aj t3<|aj t4<|aj t47<|aj Z17<|aj t269<|t270
theorem values{h0:Hp}(d:h0.t.Sized h0.n){v:Value}(e:Fl v):Ret zL 185 [v] h0 fun r c=>Gr h0 c/\ ∃b,r=.func (.func 202) #[] #[ptrTo b]/\h0.n<=b/\c.load b 0 1=some [v]:=by
 have S:=Si d
 refine ab (n:=4) (rs:=[.tmp 2]) rfl Tryz.e185 rfl rfl rfl (lbt rfl) ?_
 simp only [BS,Nat.reduceLT]
 refine ag (bC (by assumption)) S ?_;clear S;intro h b S a
 simp only [BS,LB,ae,Nat.reduceLT,Nat.reduceEqDiff]
 exact⟨S.gr,b,rfl,a,S.ld m0 rfl⟩
theorem tP{h0:Hp}(d:h0.t.Sized h0.n){v:Value}{b:Nat}{ps:List Pl}(y:h0.load b 0 1=some [v])(q:ar h0 6 jx v ps)(r:ps.length<1000):
 Iter zL 202 [] [ptrTo b] h0 (fun c=>c=b\/aq v c) (ps.map fun p=>[.agg ⟨jx p⟩]):=by
 refine te fun z J Z Y h F s k=>?_
 refine enter (n:=16) (rs:=[]) rfl Tryz.e202 rfl rfl rfl (lbt rfl) ?_
 have l:=s.load d y (.inl rfl)
 have f:=s.sl d q (fun b h=>.inr h)
 simp only [BS,LB,Nat.reduceLT,F0f,l,f.lenq]
 refine aO (fun(i:Nat) g h=>i<=ps.length/\ ∃F,ItS h0 (fun c=>c=b\/aq v c) h F/\J i h F/\g 0=.func (.yield z) #[] #[]/\g 5=v/\g 6=.int .i64 ps.length/\g 7=.int .i64 i) (fun i=>ps.length-i) ?_ 0 _ _ ?_
 . intro i A g h ⟨hi,F,s,k,r0,r5,r6,r7⟩
   by_cases hlt:i<ps.length
   . have f:=s.sl d q (fun b h=>.inr h)
     obtain⟨c,o,j,m⟩:=f.ix (kd:=.i64) encP_len hlt
     have S:=Si s.ok
     have w:an .i64 ((i:Int)+1)=((i+1:Nat):Int):=by rw [wrap64]<;>omega
     simp only [BS,LB,Nat.reduceLT,Nat.reduceEqDiff,F0f,r5,r6,r7,aB,hlt,j,m]
     refine ag aw S ?_;clear S;intro h B S t
     simp only [BS,LB,Nat.reduceLT,Nat.reduceEqDiff,jx]
     refine az (S.store (i:=0) rfl ?_ ?_ rfl rfl ?_ ono) ?_
     . exact(by exact Tryz.t233.2.1)
     . exact(by intro x e;cases e)
     . exact lbt rfl
     clear S;rintro h ⟨S,C⟩;clear C;simp only [LC,ah,lay,Xr,Xs,Nat.reduceAdd]at S
     simp only [BS,LB,Nat.reduceLT,Nat.reduceEqDiff,F0f,r0,S.lds (b:=B) (o:=0) (n:=6) m0 (lbt rfl)]
     refine cI Y (s.gr S.gr) (Y.gr _ _ _ _ k S.gr) (i:=i) (by simp [hlt,jx]) ?_ ?_ ?_
     . intro u D a E _ _
       simp only [BS,LB,Nat.reduceLT,Nat.reduceEqDiff,r7,w]
       exact A (i+1) _ _ (by omega) ⟨by omega,D,E,a,by simp [aa,r0],by simp [aa,r5],by simp [aa,r6],by simp [aa]⟩
     . intro u a _
       simp only [BS,LB,Nat.reduceLT,Nat.reduceEqDiff]
       exact fi rfl ⟨rfl,.inr (.inl ⟨_,rfl,a⟩)⟩
     . intro v u a
       simp only [BS]
       exact jK (cJ ⟨rfl,.inr (.inr ⟨_,rfl,a⟩)⟩)
   . simp only [BS,LB,Nat.reduceLT,r6,r7,aB,hlt]
     have:i=ps.length:=by omega
     subst this
     exact bS (cJ ⟨rfl,_,rfl,rfl,.inl ⟨_,F,rfl,by simpa using k⟩⟩)
 . exact⟨by omega,F,s,k,by simp [aa,bJ],by simp [aa],by simp [aa],by simp [aa]⟩
def Tryz.F1A:=aj t1<|aj t2<|aj t3<|aj t4<|aj t5<|aj t47<|aj t227<|aj Z17<|t269
def Tryz.F1B:=aj t1<|aj t2<|aj t3<|aj t4<|aj t5<|aj t28<|aj t29<|aj Z0<|aj t47<|aj Z2<|aj t227<|aj Z17<|t269
def Tryz.FL:=aj t1<|aj t2<|aj t3<|aj t4<|aj t5<|aj t6<|aj Z3<|aj Z4<|aj t28<|aj t29<|aj Z0<|aj t47<|aj Z2<|aj Z17<|t270
def nI(f g:Nat)(v:Value)(h:Hp):Prop:= ∃d a b,∃(e:List Pl) (D:Nat->Prop),v=.func (.func d) a b/\Iter zL d a.toList b.toList h D (e.map fun p=>[.agg ⟨jx p⟩])/\(∀p∈e,p.lo<=p.n/\p.n<p.hi)/\ ∀c,D c->c<f\/g<=c
theorem one_ok{h0:Hp}(l:h0.t.Sized h0.n){c n a d:Int}(m:a<=n)(r:n<d):
 Ret zL 151 [.int .i64 c,.int .i64 n,.int .i64 a,.int .i64 d] h0 fun v j=>Gr h0 j/\nI 0 h0.n v j:=by
 have S:=Si l
 refine ab (n:=16) (rs:=[.tmp 8]) rfl Tryz.e151 rfl rfl rfl (lbt rfl) ?_
 simp only [BS,LB,Nat.reduceLT,Nat.reduceEqDiff,Nat.reduceAdd,F1A]
 refine ag (bR (by exact Tryz.t269.1) (by exact Tryz.e233E) (by decide) (by rfl)) S ?_;clear S;intro h b S f;simp only [LC,aV,bK,ah,Nat.reduceMul,Nat.reduceAdd,Xj,Xg,Xn,Xt]at S
 simp only [BS,LB,Nat.reduceLT,Nat.reduceEqDiff]
 have q:=S.fr.n
 refine step_ret (values S.ok cg) ?_;intro v h ⟨g,b2,e,n2,l2⟩;replace S:=S.call g;clear g
 subst e
 simp only [BS,LB,ae,Nat.reduceLT,Nat.reduceEqDiff]
 have s:ar h 6 jx (.slice (some ⟨b,0,none⟩) 1 1) [⟨0,0,c,n,a,d⟩]:=.inr ⟨b,0,none,1,rfl,Xy _,S.lds (b:=b) (o:=0) (n:=1*6) m0 (lbt rfl)⟩
 exact⟨S.gr,_,#[],#[ptrTo b2],_,_,rfl,tP S.ok l2 s (by simp),by intro p k;simp at k;subst k;exact⟨m,r⟩,fun c i=>by rcases i with rfl|i;exact .inr (by omega);cases i;exact .inr f⟩
theorem shapes_ok{h0:Hp}(u:h0.t.Sized h0.n){a:Gra}(d:ku a){k l m:Value}(r:di h0 k l m a):
 Ret zL 153 [kB a k l m] h0 fun v s=>Gr h0 s/\nI 0 h0.n v s:=by
 have S:=Si u
 have A:=d.n1
 have B:=d.n2
 have w:an .i64 ((a.nodes:Int)+1)=((a.nodes+1:Nat):Int):=by rw [wrap64]<;>omega
 refine ab (n:=22) (rs:=[.tmp 2]) rfl Tryz.e153 rfl rfl rfl (lbt rfl) ?_
 simp only [BS,Nat.reduceLT,kB]
 refine ag (aZ (by intro x e;cases e)) S ?_;clear S;intro h b S y;simp only [ah]at S
 simp only [BS,LB,Nat.reduceLT,Nat.reduceEqDiff,Nat.reduceAdd,F1B,r.X.lenq,r.Y.lenq,w,S.ld (b:=b) (o:=0) m0 rfl,S.ld (b:=b) (o:=1) m0 rfl,S.ld (b:=b) (o:=2) m0 rfl]
 refine ag (bR (by exact Tryz.t269.1) (by exact Tryz.e233E) (by decide) (by rfl)) S ?_;clear S;intro h i S f;simp only [LC,aV,bK,ah,Nat.reduceMul,Nat.reduceAdd,Xj,Xg,Xn,Xt]at S
 simp only [BS,LB,Nat.reduceLT,Nat.reduceEqDiff]
 have q:=S.fr.n
 refine step_ret (values S.ok cg) ?_;intro v h ⟨g,b2,e,n2',l2⟩;replace S:=S.call g;clear g
 subst e
 simp only [BS,LB,ae,Nat.reduceLT,Nat.reduceEqDiff]
 have z:ar h 6 jx (.slice (some ⟨i,0,none⟩) 2 2) [⟨0,0,6,a.X.length,a.nodes,(a.nodes+1:Nat)⟩,⟨0,1,6,a.Y.length,a.nodes,(a.nodes+1:Nat)⟩]:=.inr ⟨i,0,none,2,rfl,Xy _,S.lds (b:=i) (o:=0) (n:=2*6) m0 (lbt rfl)⟩
 refine⟨S.gr,_,#[],#[ptrTo b2],_,_,rfl,tP S.ok l2 z (by simp),?_,fun c j=>by rcases j with rfl|j;exact .inr (by omega);cases j;exact .inr f⟩
 intro p t
 have:=d.lX
 have:=d.lY
 simp at t
 rcases t with rfl|rfl<;>(simp only [];omega)
theorem nodes_ok{h0:Hp}(j:h0.t.Sized h0.n){c d f g:Value}:Ret zL 155 [.agg ⟨[g,c,d,f]⟩] h0 fun v i=>Gr h0 i/\ ∃b,v=.func (.func 186) #[] #[ptrTo b]/\h0.n<=b/\Row i b [g,c,d,f] 1:=by
 have S:=Si j
 refine ab (n:=4) (rs:=[.tmp 2]) rfl Tryz.e155 rfl rfl rfl (lbt rfl) ?_
 simp only [BS,Nat.reduceLT]
 refine ag (aZ (by intro x e;cases e)) S ?_;clear S;intro h b S a;simp only [ah]at S
 simp only [BS,LB,ae,Nat.reduceLT,Nat.reduceEqDiff]
 exact⟨S.gr,b,rfl,a,S.row m0⟩
theorem arcs_ok{h0:Hp}(j:h0.t.Sized h0.n){c d f g:Value}:Ret zL 158 [.agg ⟨[g,c,d,f]⟩] h0 fun v i=>Gr h0 i/\ ∃b,v=.func (.func 187) #[] #[ptrTo b]/\h0.n<=b/\Row i b [g,c,d,f] 1:=by
 have S:=Si j
 refine ab (n:=4) (rs:=[.tmp 2]) rfl Tryz.e158 rfl rfl rfl (lbt rfl) ?_
 simp only [BS,Nat.reduceLT]
 refine ag (aZ (by intro x e;cases e)) S ?_;clear S;intro h b S a;simp only [ah]at S
 simp only [BS,LB,ae,Nat.reduceLT,Nat.reduceEqDiff]
 exact⟨S.gr,b,rfl,a,S.row m0⟩
def plN(X Y:List Int):List Pl:=(Xf X.length).flatMap fun(i:Nat)=>[⟨i,0,7,X.getD i 0,-2147483648,2147483648⟩,⟨i,1,7,Y.getD i 0,-2147483648,2147483648⟩]
theorem plN_len(X Y:List Int):(plN X Y).length=2*X.length:=by
 unfold plN
 rw [Xu]
 simp [XF]
 omega
theorem plN_at(X Y:List Int){i:Nat}(c:i<X.length):(plN X Y)[2*i]? =some ⟨i,0,7,X.getD i 0,-2147483648,2147483648⟩/\(plN X Y)[2*i+1]? =some ⟨i,1,7,Y.getD i 0,-2147483648,2147483648⟩:=by
 unfold plN
 have b: ∀(n j:Nat) (f:Nat->Pl) (k:Nat->Pl),j<n->((Xf n).flatMap fun i=>[f i,k i])[2*j]? =some (f j)/\((Xf n).flatMap fun i=>[f i,k i])[2*j+1]? =some (k j):=by
  intro n
  induction n with
  |zero=>intro j f k d;omega
  | succ n e=>
    intro j f k d
    have a:((Xf n).flatMap fun i=>[f i,k i]).length=2*n:=by rw [Xu];simp [XF];omega
    rw [XN,XV]
    by_cases h:j<n
    . rw [Xd (by omega),Xd (by omega)];exact e j f k h
    . have:j=n:=by omega
      subst this
      rw [zO (by omega),zO (by omega),a]
      simp
 exact b _ _ _ _ c
theorem B7{h0:Hp}(d:h0.t.Sized h0.n){l m K L:Value}{b:Nat}{X Y:List Int}(t:Row h0 b [L,l,m,K] 1)(G:ar h0 1 (encI .i64) l X)(M:ar h0 1 (encI .i64) m Y)(hl:X.length=Y.length)(H:X.length<1000):
 Iter zL 186 [] [ptrTo b] h0 (fun c=>c=b\/aq l c\/aq m c) ((plN X Y).map fun p=>[.agg ⟨jx p⟩]):=by
 refine te fun N J Z u h F s r=>?_
 refine enter (n:=38) (rs:=[]) rfl Tryz.e186 rfl rfl rfl (lbt rfl) ?_
 have x:=s.load d (t.load1 (o:=1) rfl) (.inl rfl)
 simp only [BS,LB,Nat.reduceLT,Nat.reduceEqDiff,FL,x,G.lenq]
 refine aO (fun(i:Nat) g h=>i<=X.length/\ ∃F,ItS h0 (fun c=>c=b\/aq l c\/aq m c) h F/\J (2*i) h F/\g 0=.func (.yield N) #[] #[]/\g 1=ptrTo b/\g 8=.int .i64 X.length/\g 9=.int .i64 i) (fun i=>X.length-i) ?_ 0 _ _ ?_
 . intro i O g h ⟨hi,F,s,r,r0,r1,r8,r9⟩
   by_cases hlt:i<X.length
   . have y:=s.sl d G (fun b h=>.inr (.inl h))
     have z:=s.sl d M (fun b h=>.inr (.inr h))
     have x:=s.load d (t.load1 (o:=1) rfl) (.inl rfl)
     have P:=s.load d (t.load1 (o:=2) rfl) (.inl rfl)
     obtain⟨c,o,j,A⟩:=y.ix (kd:=.i64) (bO _) hlt
     obtain⟨c2,o2,f,k⟩:=z.ix (kd:=.i64) (bO _) (i:=i) (by omega)
     have S:=Si s.ok
     have w:an .i64 ((i:Int)+1)=((i+1:Nat):Int):=by rw [wrap64]<;>omega
     simp only [BS,LB,Nat.reduceLT,Nat.reduceEqDiff,r8,r9,aB,hlt]
     refine au (aC rfl) (q:=1024) (ps:=[]) (by kernel_rfl) ?_
     simp only [BS,LB,cls,Nat.reduceLT,Nat.reduceEqDiff,Nat.reduceAdd,Nat.reducePow,Nat.reduceDiv,Nat.reduceMod,Nat.reduceLeDiff,FL,r1,x,P,j,f,A,k,encI]
     refine dS (bR (by exact Tryz.t28.1) (by exact Tryz.e2E) (by decide) (by rfl)) S ?_;clear S;intro h e S B C;simp only [LC,aV,bK,ah,Nat.reduceMul,Nat.reduceAdd,Xj,Xg,Xn,Xt]at S
     simp only [BS,LB,cls,Nat.reduceLT,Nat.reduceEqDiff,Nat.reduceAdd,Nat.reducePow,Nat.reduceDiv,Nat.reduceMod,Nat.reduceLeDiff,Xe,FL]
     have Q:an .i64 1=1:=rfl
     have T:an .i64 2=2:=rfl
     have I:=plN_at X Y hlt
     rw [ct]
     simp only [BS,LB,Nat.reduceLT,Nat.reduceEqDiff,Nat.reduceAdd,Int.reduceToNat,Int.reduceLE,Int.reduceLT,Xe,FL,r0,S.ld (b:=e) (o:=0) m0 rfl,S.ld (b:=e) (o:=1) m0 rfl]
     refine cI u (s.gr S.gr) (u.gr _ _ _ _ r S.gr) (i:=2*i) (by rw [Xm,I.1];simp [jx,Xc,hlt]) ?_ ?_ ?_
     . intro U F2 a V D _
       have W:e∉F:=fun hm=>by have:=s.lt _ hm;omega
       have R:Row U e _ 1:=(S.row m0).of_get (D.get _ ((S.row m0).lt S.ok) W)
       have R1:=R.load1 (o:=1) rfl
       have ad:True:=trivial
       simp only [BS,LB,Nat.reduceLT,Nat.reduceEqDiff,Int.reduceAdd,Q]
       rw [ct]
       simp only [BS,LB,Nat.reduceLT,Nat.reduceEqDiff,Nat.reduceAdd,Int.reduceToNat,Int.reduceLE,Int.reduceLT,Xe,FL,r0,R1]
       refine cI u V a (i:=2*i+1) (by rw [Xm,I.2];simp [jx,Xc,show i<Y.length by omega]) ?_ ?_ ?_
       . intro h3 F3 a s3 _ _
         simp only [BS,LB,Nat.reduceLT,Nat.reduceEqDiff,Int.reduceAdd,T]
         rw [ct]
         simp only [BS,LB,Nat.reduceLT,Nat.reduceEqDiff,Int.reduceLT,r9,w]
         exact O (i+1) _ _ (by omega) ⟨by omega,F3,s3,a,by simp [aa,r0],by simp [aa,r1],by simp [aa,r8],by simp [aa]⟩
       . intro E a _
         simp only [BS,LB,Nat.reduceLT,Nat.reduceEqDiff]
         exact fi rfl ⟨rfl,.inr (.inl ⟨_,rfl,a⟩)⟩
       . intro v E a
         simp only [BS]
         exact jK (cJ ⟨rfl,.inr (.inr ⟨_,rfl,a⟩)⟩)
     . intro E a _
       simp only [BS,LB,Nat.reduceLT,Nat.reduceEqDiff]
       exact fi rfl ⟨rfl,.inr (.inl ⟨_,rfl,a⟩)⟩
     . intro v E a
       simp only [BS]
       exact jK (cJ ⟨rfl,.inr (.inr ⟨_,rfl,a⟩)⟩)
   . simp only [BS,LB,Nat.reduceLT,r8,r9,aB,hlt]
     have:i=X.length:=by omega
     subst this
     exact bS (cJ ⟨rfl,_,rfl,rfl,.inl ⟨_,F,rfl,by simpa [plN_len]using r⟩⟩)
 . exact⟨by omega,F,s,r,by simp [aa,bJ],by simp [aa,bJ,ac],by simp [aa],by simp [aa]⟩
def Tryz.Fi:=aj t1<|aj t2<|aj t3<|aj t4<|aj t5<|aj t6<|aj Z3<|aj Z4<|aj t9<|aj t28<|aj t29<|aj Z0<|aj t47<|aj Z2<|aj Z17<|aj t269<|t270
def plA(n:Nat)(A:List Arc):List Pl:=(Xf A.length).flatMap fun(i:Nat)=>[⟨i,0,9,(A.getD i default).s,0,n⟩,⟨i,1,9,(A.getD i default).t,0,n⟩,⟨i,2,10,(A.getD i default).w,0,2147483648⟩]
theorem flat3_at{b:Type}(f k l:Nat->b): ∀(n j:Nat),j<n->((Xf n).flatMap fun i=>[f i,k i,l i])[3*j]? =some (f j)/\((Xf n).flatMap fun i=>[f i,k i,l i])[3*j+1]? =some (k j)/\((Xf n).flatMap fun i=>[f i,k i,l i])[3*j+2]? =some (l j):=by
 intro n
 induction n with
 |zero=>intro j c;omega
 | succ n d=>
   intro j c
   have a:((Xf n).flatMap fun i=>[f i,k i,l i]).length=3*n:=by rw [Xu];simp [XF];omega
   rw [XN,XV]
   by_cases h:j<n
   . rw [Xd (by omega),Xd (by omega),Xd (by omega)];exact d j h
   . have:j=n:=by omega
     subst this
     rw [zO (by omega),zO (by omega),zO (by omega),a]
     simp
theorem plA_len(n:Nat)(A:List Arc):(plA n A).length=3*A.length:=by
 unfold plA
 rw [Xu]
 simp [XF]
 omega
theorem arcs_iter {h0:Hp} (d:h0.t.Sized h0.n) {W X m:Value} {b n:Nat} {A:List Arc} (I:Row h0 b [.int .i64 n,W,X,m] 1) (K:ar h0 3 cG m A) (L:A.length<1000):
 Iter zL 187 [] [ptrTo b] h0 (fun c=>c=b\/aq m c) ((plA n A).map fun p=>[.agg ⟨jx p⟩]):=by
 refine te fun Y J Z j h F s t=>?_
 refine enter (n:=44) (rs:=[]) rfl Tryz.e187 rfl rfl rfl (lbt rfl) ?_
 have l0:=s.load d (I.load1 (o:=0) rfl) (.inl rfl)
 have l3:=s.load d (I.load1 (o:=3) rfl) (.inl rfl)
 simp only [BS,LB,Nat.reduceLT,Nat.reduceEqDiff,Fi,l0,l3,K.lenq]
 refine aO (fun(i:Nat) k h=>i<=A.length/\ ∃F,ItS h0 (fun c=>c=b\/aq m c) h F/\J (3*i) h F/\k 0=.func (.yield Y) #[] #[]/\k 3=.int .i64 n/\k 11=m/\k 12=.int .i64 A.length/\k 13=.int .i64 i) (fun i=>A.length-i) ?_ 0 _ _ ?_
 . intro i ih k h ⟨hi,F,s,t,r0,r3,r11,r12,r13⟩
   by_cases hlt:i<A.length
   . have u:=s.sl d K (fun b h=>.inr h)
     obtain⟨c,o,q,y⟩:=u.ix (kd:=.i64) iA hlt
     have S:=Si s.ok
     have w:an .i64 ((i:Int)+1)=((i+1:Nat):Int):=by rw [wrap64]<;>omega
     have w1:an .i64 1=1:=rfl
     have w2:an .i64 2=2:=rfl
     have w3:an .i64 3=3:=rfl
     have z:=flat3_at (fun(i:Nat)=>(⟨i,0,9,(A.getD i default).s,0,n⟩:Pl)) (fun(i:Nat)=>⟨i,1,9,(A.getD i default).t,0,n⟩) (fun(i:Nat)=>⟨i,2,10,(A.getD i default).w,0,2147483648⟩) A.length i hlt
     have B:A.getD i default=A[i]:=by simp [Xc,hlt]
     simp only [BS,LB,Nat.reduceLT,Nat.reduceEqDiff,Fi,r11,r12,r13,aB,hlt,q,y]
     refine ag aw S ?_;clear S;intro h C S M
     simp only [BS,LB,Nat.reduceLT,Nat.reduceEqDiff,cG]
     refine az (S.store (i:=0) rfl ?_ ?_ rfl rfl ?_ ono) ?_
     . exact(by exact Tryz.t108.2.1)
     . exact(by intro x e;cases e)
     . exact lbt rfl
     clear S;rintro h ⟨S,f⟩;clear f;simp only [LC,ah,lay,Xr,Xs,Nat.reduceAdd]at S
     simp only [BS,LB,Nat.reduceLT,Nat.reduceEqDiff,Nat.reduceAdd,Fi,r3,S.ld (b:=C) (o:=0) m0 rfl,S.ld (b:=C) (o:=1) m0 rfl,S.ld (b:=C) (o:=2) m0 rfl]
     refine ag (bR (by exact Tryz.t269.1) (by exact Tryz.e233E) (by decide) (by rfl)) S ?_;clear S;intro h g S N;simp only [LC,aV,bK,ah,Nat.reduceMul,Nat.reduceAdd,Xj,Xg,Xn,Xt]at S
     simp only [BS,LB,Nat.reduceLT,Nat.reduceEqDiff,Xe,Fi]
     have O:g∉F:=fun l=>by have:=s.lt _ l;omega
     have R:Row h g _ 1:=S.row m0
     have ad:=R.lt S.ok
     rw [ct]
     simp only [BS,LB,Nat.reduceLT,Nat.reduceEqDiff,Int.reduceToNat,Int.reduceLE,Int.reduceLT,Xe,Fi,S.lds (b:=g) (o:=0) (n:=6) m0 (lbt rfl)]
     refine ag aw S ?_;clear S;intro h b7 S P
     simp only [BS,LB,Nat.reduceLT,Nat.reduceEqDiff,XH,XG,XT]
     refine az (S.store (i:=0) rfl ?_ ?_ rfl rfl ?_ ono) ?_
     . exact(by exact Tryz.t233.2.1)
     . exact(by intro x e;cases e)
     . exact lbt rfl
     clear S;rintro h ⟨S,f⟩;clear f;simp only [LC,ah,lay,Xr,Xs,Nat.reduceAdd]at S
     simp only [BS,LB,Nat.reduceLT,Nat.reduceEqDiff,Fi,r0,S.lds (b:=b7) (o:=0) (n:=6) m0 (lbt rfl)]
     have R:Row h g _ 1:=S.row m1
     refine cI j (s.gr S.gr) (j.gr _ _ _ _ t S.gr) (i:=3*i) (by rw [Xm,show(plA n A)[3*i]? =_ from z.1,B];simp [jx]) ?_ ?_ ?_
     . intro h2 F2 a Q D E
       have R0:=R
       replace R:Row h2 g _ 1:=R.of_get (D.get _ (R.lt S.ok) O)
       have G:g∉F2:=fun l=>by
        rcases E _ l with l|l
        . exact O l
        . have:=R0.lt S.ok;omega
       have S:=Si Q.ok
       simp only [BS,LB,Nat.reduceLT,Nat.reduceEqDiff,Int.reduceAdd,w1]
       rw [ct]
       simp only [BS,LB,Nat.reduceLT,Nat.reduceEqDiff,Int.reduceToNat,Int.reduceLE,Int.reduceLT,Xe,Nat.reduceMul,Fi,R.load (o:=6) (n:=6) (lbt rfl)]
       refine ag aw S ?_;clear S;intro h b8 S T
       simp only [BS,LB,Nat.reduceLT,Nat.reduceEqDiff,XW,XH,XG,XT]
       refine az (S.store (i:=0) rfl ?_ ?_ rfl rfl ?_ ono) ?_
       . exact(by exact Tryz.t233.2.1)
       . exact(by intro x e;cases e)
       . exact lbt rfl
       clear S;rintro h ⟨S,f⟩;clear f;simp only [LC,ah,lay,Xr,Xs,Nat.reduceAdd]at S
       simp only [BS,LB,Nat.reduceLT,Nat.reduceEqDiff,Fi,r0,S.lds (b:=b8) (o:=0) (n:=6) m0 (lbt rfl)]
       replace R:=R.gr S.gr
       refine cI j (Q.gr S.gr) (j.gr _ _ _ _ a S.gr) (i:=3*i+1) (by rw [Xm,show(plA n A)[3*i+1]? =_ from z.2.1,B];simp [jx]) ?_ ?_ ?_
       . intro h3 F3 a U H af
         replace R:Row h3 g _ 1:=R.of_get (H.get _ (R.lt S.ok) G)
         have S:=Si U.ok
         simp only [BS,LB,Nat.reduceLT,Nat.reduceEqDiff,Int.reduceAdd,w2]
         rw [ct]
         simp only [BS,LB,Nat.reduceLT,Nat.reduceEqDiff,Int.reduceToNat,Int.reduceLE,Int.reduceLT,Xe,Nat.reduceMul,Fi,R.load (o:=12) (n:=6) (lbt rfl)]
         refine ag aw S ?_;clear S;intro h b9 S V
         simp only [BS,LB,Nat.reduceLT,Nat.reduceEqDiff,XW,XH,XG,XT]
         refine az (S.store (i:=0) rfl ?_ ?_ rfl rfl ?_ ono) ?_
         . exact(by exact Tryz.t233.2.1)
         . exact(by intro x e;cases e)
         . exact lbt rfl
         clear S;rintro h ⟨S,f⟩;clear f;simp only [LC,ah,lay,Xr,Xs,Nat.reduceAdd]at S
         simp only [BS,LB,Nat.reduceLT,Nat.reduceEqDiff,Fi,r0,S.lds (b:=b9) (o:=0) (n:=6) m0 (lbt rfl)]
         refine cI j (U.gr S.gr) (j.gr _ _ _ _ a S.gr) (i:=3*i+2) (by rw [Xm,show(plA n A)[3*i+2]? =_ from z.2.2,B];simp [jx]) ?_ ?_ ?_
         . intro h4 F4 a s4 ai ak
           simp only [BS,LB,Nat.reduceLT,Nat.reduceEqDiff,Int.reduceAdd,w3]
           rw [ct]
           simp only [BS,LB,Nat.reduceLT,Nat.reduceEqDiff,Int.reduceLT,r13,w]
           exact ih (i+1) _ _ (by omega) ⟨by omega,F4,s4,a,by simp [aa,r0],by simp [aa,r3],by simp [aa,r11],by simp [aa,r12],by simp [aa]⟩
         . intro r a _
           simp only [BS,LB,Nat.reduceLT,Nat.reduceEqDiff]
           exact fi rfl ⟨rfl,.inr (.inl ⟨_,rfl,a⟩)⟩
         . intro v r a
           simp only [BS]
           exact jK (cJ ⟨rfl,.inr (.inr ⟨_,rfl,a⟩)⟩)
       . intro r a _
         simp only [BS,LB,Nat.reduceLT,Nat.reduceEqDiff]
         exact fi rfl ⟨rfl,.inr (.inl ⟨_,rfl,a⟩)⟩
       . intro v r a
         simp only [BS]
         exact jK (cJ ⟨rfl,.inr (.inr ⟨_,rfl,a⟩)⟩)
     . intro r a _
       simp only [BS,LB,Nat.reduceLT,Nat.reduceEqDiff]
       exact fi rfl ⟨rfl,.inr (.inl ⟨_,rfl,a⟩)⟩
     . intro v r a
       simp only [BS]
       exact jK (cJ ⟨rfl,.inr (.inr ⟨_,rfl,a⟩)⟩)
   . simp only [BS,LB,Nat.reduceLT,r12,r13,aB,hlt]
     have:i=A.length:=by omega
     subst this
     exact bS (cJ ⟨rfl,_,rfl,rfl,.inl ⟨_,F,rfl,by simpa [plA_len]using t⟩⟩)
 . exact⟨by omega,F,s,t,by simp [aa,bJ],by simp [aa],by simp [aa],by simp [aa],by simp [aa]⟩
def Tryz.F1C:=aj t1<|aj t2<|aj t3<|aj t28<|aj t29<|aj Z0<|aj t47<|aj Z2<|t227
def Tryz.F1D:=aj t1<|aj t2<|aj t3<|aj t28<|aj t29<|aj Z0<|aj Z2<|t227
def Tryz.F1E:=aj t1<|aj t2<|aj t3<|aj t28<|aj t29<|aj Z0<|aj t47<|aj Z2<|t227
def Tryz.F1F:=aj t1<|aj t2<|aj t3<|aj t28<|aj t29<|aj Z0<|aj Z2<|t227
def Tryz.F1G:=aj t1<|aj t2<|aj t3<|aj t28<|aj t29<|aj Z0<|aj Z2<|t227
theorem look1_ok{h0:Hp}(e:h0.t.Sized h0.n){c:Gra}(a:ku c){f i j:Value}{b:Nat}(k:Row h0 b [.int .i64 c.nodes,f,i,j] 1):Ret zL 150 [ptrTo b] h0 fun v d=>Gr h0 d/\nI 0 h0.n v d:=by
 have S:=Si e
 have l:=a.n1
 have m:=a.n2
 refine ab (n:=5) (rs:=[.tmp 1]) rfl Tryz.e150 rfl rfl rfl (lbt rfl) ?_
 simp only [BS,LB,Nat.reduceLT,Nat.reduceEqDiff,F1C,k.load1 (o:=0) rfl]
 refine step_ret (one_ok S.ok (by omega) (by omega)) ?_;intro v h ⟨g,t⟩;replace S:=S.call g;clear g
 simp only [BS,LB,ae,Nat.reduceLT,Nat.reduceEqDiff]
 exact⟨S.gr,t⟩
theorem look2_ok{h0:Hp}(j:h0.t.Sized h0.n){a:Gra}(c:ku a){d e f:Value}(k:di h0 d e f a){b:Nat}(l:Row h0 b [.int .i64 a.nodes,d,e,f] 1):Ret zL 152 [ptrTo b] h0 fun v i=>Gr h0 i/\nI 0 h0.n v i:=by
 have S:=Si j
 refine ab (n:=4) (rs:=[.tmp 1]) rfl Tryz.e152 rfl rfl rfl (lbt rfl) ?_
 simp only [BS,LB,Nat.reduceLT,Nat.reduceEqDiff,F1D,l.load (o:=0) (n:=4) (lbt rfl)]
 refine step_ret (shapes_ok S.ok c k) ?_;intro v h ⟨g,t⟩;replace S:=S.call g;clear g
 simp only [BS,LB,ae,Nat.reduceLT,Nat.reduceEqDiff]
 exact⟨S.gr,t⟩
theorem look4_ok{h0:Hp}(j:h0.t.Sized h0.n){a:Gra}(c:ku a){d e f:Value}(k:di h0 d e f a){b:Nat}(l:Row h0 b [.int .i64 a.nodes,d,e,f] 1):Ret zL 156 [ptrTo b] h0 fun v i=>Gr h0 i/\nI 0 h0.n v i:=by
 have S:=Si j
 have m:=c.many
 refine ab (n:=6) (rs:=[.tmp 1]) rfl Tryz.e156 rfl rfl rfl (lbt rfl) ?_
 simp only [BS,LB,Nat.reduceLT,Nat.reduceEqDiff,F1E,l.load1 (o:=3) rfl,k.A.lenq]
 refine step_ret (one_ok S.ok (by omega) (by omega)) ?_;intro v h ⟨g,t⟩;replace S:=S.call g;clear g
 simp only [BS,LB,ae,Nat.reduceLT,Nat.reduceEqDiff]
 exact⟨S.gr,t⟩
theorem look3_ok{h0:Hp}(w:h0.t.Sized h0.n){d:Gra}(a:ku d){k l r:Value}(s:di h0 k l r d){b m:Nat}(x: ∀c,aq k c->c<m)(y: ∀c,aq l c->c<m)(z:Row h0 b [.int .i64 d.nodes,k,l,r] 1):Ret zL 154 [ptrTo b] h0 fun v t=>Gr h0 t/\nI m h0.n v t:=by
 have S:=Si w
 have A:=a.n2
 have B:=a.lX
 have C:=a.lY
 refine ab (n:=4) (rs:=[.tmp 1]) rfl Tryz.e154 rfl rfl rfl (lbt rfl) ?_
 simp only [BS,LB,Nat.reduceLT,Nat.reduceEqDiff,F1F,z.load (o:=0) (n:=4) (lbt rfl)]
 refine step_ret (nodes_ok S.ok) ?_;intro v h ⟨g,b2,e,q2,R⟩;replace S:=S.call g;clear g
 subst e
 simp only [BS,LB,ae,Nat.reduceLT,Nat.reduceEqDiff]
 refine⟨S.gr,_,#[],#[ptrTo b2],_,_,rfl,B7 S.ok R (s.X.gr S.gr) (s.Y.gr S.gr) (by omega) (by omega),fun p q=>?_,fun c f=>?_⟩
 . unfold plN at q
   simp only [List.mem_flatMap,XQ,XA,XK,or_false]at q
   obtain⟨i,u,rfl|rfl⟩:=q
   . have:=a.cX d.X[i] (XL u)
     simp only [Xc,Xx u,XM];omega
   . have j:i<d.Y.length:=by omega
     have:=a.cY d.Y[i] (XL j)
     simp only [Xc,Xx j,XM];omega
 . rcases f with rfl|f|f
   . exact .inr q2
   . exact .inl (x c f)
   . exact .inl (y c f)
theorem look5_ok{h0:Hp}(t:h0.t.Sized h0.n){d:Gra}(a:ku d){l m f:Value}(u:di h0 l m f d){b q:Nat}(w: ∀c,aq f c->c<q)(x:Row h0 b [.int .i64 d.nodes,l,m,f] 1):Ret zL 157 [ptrTo b] h0 fun v r=>Gr h0 r/\nI q h0.n v r:=by
 have S:=Si t
 have y:=a.many
 refine ab (n:=4) (rs:=[.tmp 1]) rfl Tryz.e157 rfl rfl rfl (lbt rfl) ?_
 simp only [BS,LB,Nat.reduceLT,Nat.reduceEqDiff,F1G,x.load (o:=0) (n:=4) (lbt rfl)]
 refine step_ret (arcs_ok S.ok) ?_;intro v h ⟨g,b2,e,q2,R⟩;replace S:=S.call g;clear g
 subst e
 simp only [BS,LB,ae,Nat.reduceLT,Nat.reduceEqDiff]
 refine⟨S.gr,_,#[],#[ptrTo b2],_,_,rfl,arcs_iter S.ok R (u.A.gr S.gr) (by omega),fun p j=>?_,fun c k=>?_⟩
 . unfold plA at j
   simp only [List.mem_flatMap,XQ,XA,XK,or_false]at j
   obtain⟨i,s,h⟩:=j
   have:=a.arcs d.arcs[i] (XL s)
   simp only [Xc,Xx s,XM]at h
   rcases h with rfl|rfl|rfl<;>(simp only [];omega)
 . rcases k with rfl|k
   . exact .inr q2
   . exact .inl (w c k)
def Tryz.FM:=aj t1<|aj t2<|aj t3<|aj t4<|aj t5<|aj t6<|aj Z3<|aj Z4<|aj t17<|aj Z21<|aj t20<|aj t28<|aj t29<|aj Z0<|aj t47<|aj Z2<|aj t121<|aj r121<|aj t123<|aj t173<|aj r173<|aj t227<|aj t229<|aj t231<|aj Z17<|Z18
theorem look_ok {h0:Hp} (z:h0.t.Sized h0.n) {O:Gra} (l:ku O) {Z vy va:Value} (A:di h0 Z vy va O):Ret zL 100 [kB O Z vy va] h0 fun v f=>Gr h0 f:=by
 have S:=Si z
 refine ab (n:=44) (rs:=[]) rfl Tryz.e100 rfl rfl rfl (lbt rfl) ?_
 simp only [BS,Nat.reduceLT,kB]
 refine ag (aZ (by intro x e;cases e)) S ?_;clear S;intro h b S ak;simp only [ah]at S
 simp only [BS,LB,Nat.reduceLT,Nat.reduceEqDiff]
 refine ag (bR (by exact Tryz.t231.1) (by exact Tryz.e229E) (by decide) (by rfl)) S ?_;clear S;intro h bs S ad;simp only [LC,aV,bK,ah,Nat.reduceMul,Nat.reduceAdd,Xj,Xg,Xn,Xt]at S
 simp only [BS,LB,Nat.reduceLT,Nat.reduceEqDiff,Xe,FM]
 have P: ∀i,i<5-> ∃g a c,[Value.func (.func 150) #[] #[.pointer (some ⟨b,0,none⟩)],.func (.func 152) #[] #[.pointer (some ⟨b,0,none⟩)],.func (.func 154) #[] #[.pointer (some ⟨b,0,none⟩)],.func (.func 156) #[] #[.pointer (some ⟨b,0,none⟩)],.func (.func 157) #[] #[.pointer (some ⟨b,0,none⟩)]][i]? =some (.func (.func g) a c)/\
  ∀f,Gr h f->Ret zL g (a.toList++c.toList) f fun v k=>Gr f k/\nI h0.n f.n v k:=by
  intro i hi
  have s:=S.row (b:=b) m1
  have r:=A.gr S.gr
  have Q: ∀f v k,Gr f k/\nI 0 f.n v k->Gr f k/\nI h0.n f.n v k:=by
   rintro f v k ⟨a,R,a1,T,I,D,b1,b2,b3,B⟩
   exact⟨a,R,a1,T,I,D,b1,b2,b3,fun c t=>(B c t).elim (fun h=>by omega) .inr⟩
  match i,hi with
  |0,_=>exact⟨_,_,_,rfl,fun f g=>rC (look1_ok g.ok l (s.gr g)) (Q f)⟩
  |1,_=>exact⟨_,_,_,rfl,fun f g=>rC (look2_ok g.ok l (r.gr g) (s.gr g)) (Q f)⟩
  |2,_=>exact⟨_,_,_,rfl,fun f g=>look3_ok g.ok l (r.gr g) (fun c t=>A.X.lt z t) (fun c t=>A.Y.lt z t) (s.gr g)⟩
  |3,_=>exact⟨_,_,_,rfl,fun f g=>rC (look4_ok g.ok l (r.gr g) (s.gr g)) (Q f)⟩
  |4,_=>exact⟨_,_,_,rfl,fun f g=>look5_ok g.ok l (r.gr g) (fun c t=>A.A.lt z t) (s.gr g)⟩
 have Rs:=S.row (b:=bs) m0
 have g0:=S.gr
 have C:=S.ok
 clear S A z
 revert P Rs
 generalize [Value.func (.func 150) #[] #[.pointer (some ⟨b,0,none⟩)],.func (.func 152) #[] #[.pointer (some ⟨b,0,none⟩)],.func (.func 154) #[] #[.pointer (some ⟨b,0,none⟩)],.func (.func 156) #[] #[.pointer (some ⟨b,0,none⟩)],.func (.func 157) #[] #[.pointer (some ⟨b,0,none⟩)]]=fs
 intro P Rs
 rename Hp=>E
 have al:=Rs.lt C
 have ax:=g0.n
 have S:=Si C
 refine pS (fun(i:Nat) J d f=>i<=5/\ ∃j:List Nat,d=j.map qk/\St NoM E f (dh j) []/\J 10=.slice (some ⟨bs,0,none⟩) 5 5/\J 11=.int .i64 5/\J 12=.int .i64 i) (fun i=>5-i) ?_ 0 _ _ _ ?_
 . clear S
   intro i ih J d h ⟨hi,j,K,S,r10,r11,r12⟩
   have w:an .i64 ((i:Int)+1)=((i+1:Nat):Int):=by rw [wrap64]<;>omega
   by_cases hlt:i<5
   . obtain⟨g,a,c,U,s⟩:=P i hlt
     have Rl:=(Rs.gr S.gr).load1 U
     have m:(i:Int)<5:=by omega
     simp only [BS,LB,Nat.reduceLT,Nat.reduceEqDiff,FM,r10,r11,r12,m,hlt,Rl]
     refine ag aw S ?_;clear S;intro h b2 S af
     simp only [BS,LB,Nat.reduceLT,Nat.reduceEqDiff]
     refine az (ay S (i:=0) rfl ?_ ?_ ?_ ono) ?_
     . exact(by simp only [FM])
     . exact(by exact aX)
     . exact XJ (lbt rfl)
     clear S;rintro h ⟨S,V⟩;clear V;simp only [LC,ah,lay,Xr,Xs,Nat.reduceAdd]at S
     simp only [BS,LB,Nat.reduceLT,Nat.reduceEqDiff]
     replace S:=S.drop1
     have kl: ∀b∈keys (dh j) [],b<h.n:=fun b q=>S.key_lt q
     refine step_ret (s _ S.gr) ?_;intro v h ⟨g,R,T,post,I,D,e,it,hps,hD⟩;replace S:=S.call g;clear g
     subst e
     simp only [BS]
     refine fq S (g:=R) (a:=T) (b:=post) (by simp [bQ,aa]) rfl rfl ?_
     intro M G H u aL a0 g2
     obtain⟨X,hX,u⟩: ∃X:eu,X=_/\St NoM E M ((H,.loop X)::(G,.dfr)::dh j) []:=⟨_,rfl,u⟩
     have hJ:Yld zL H (fun _ f F=>St NoM E f ((H,.loop X)::(G,.dfr)::dh j) []/\F=keys ((H,.loop X)::(G,.dfr)::dh j) []) (fun _ _=>False) (I.map fun p=>[.agg ⟨jx p⟩]):=by
      refine⟨?_,?_,fun _ _ h=>h.elim,?_⟩
      . rintro i h F ⟨S,rfl⟩;exact⟨S.ok,fun b q=>S.key_lt q⟩
      . rintro i h F f ⟨S,rfl⟩ g;exact⟨S.call g,rfl⟩
      . rintro i x h F hx ⟨S,rfl⟩
        obtain⟨p,hp,rfl⟩: ∃p∈I,x=[.agg ⟨jx p⟩]:=by
         rw [Xm,Option.map_eq_some_iff]at hx
         obtain⟨p,E,M⟩:=hx
         exact⟨p,Xa E,M.symm⟩
        obtain⟨p1,p2⟩:=hps p hp
        have W: ¬p.n<p.lo:=by omega
        have Y: ¬p.hi<=p.n:=by omega
        subst hX
        refine fG (S.get m0) (by rw [Tryz.e100];rfl) rfl ?_
        have S0:=S
        replace S:=S.base
        simp only [BS,FM]
        refine ag aw S ?_;clear S;intro h B S ai
        simp only [BS,LB,Nat.reduceLT,Nat.reduceEqDiff,jx]
        refine az (S.store (i:=0) rfl ?_ ?_ rfl rfl ?_ ono) ?_
        . exact(by exact Tryz.t233.2.1)
        . exact(by intro x e;cases e)
        . exact lbt rfl
        clear S;rintro h ⟨S,V⟩;clear V;simp only [LC,ah,lay,Xr,Xs,Nat.reduceAdd]at S
        simp only [BS]
        refine eH S (i:=1) rfl rfl rfl rfl rfl ?_
        clear S;intro h S
        simp only [BS,LB,Nat.reduceLT,Nat.reduceEqDiff,FM,W,Y,S.ld (b:=B) (o:=3) m0 rfl,S.ld (b:=B) (o:=4) m0 rfl,S.ld (b:=B) (o:=5) m0 rfl]
        refine dy S (i:=1) rfl ?_
        clear S;intro h S
        exact .inl ⟨rfl,_,⟨S0.rebase S.drop1,rfl⟩,S.fr,S.drop1.key_new⟩
     refine eg (yX it hJ (h:=M) (F:=keys ((H,.loop _)::(G,.dfr)::dh j) []) g2.fr (fun b q hlt=>?_) ⟨u,rfl⟩) fun o rc f y=>iq y ?_
     . intro K
       have N:=u.key_own q
       rcases hD b K with hh|hh
       . rcases N with N|N
         . omega
         . exact N
       . rcases List.mem_cons.1 q with rfl|q
         . omega
         . rcases List.mem_cons.1 q with rfl|q
           . omega
           . have:=kl b q;omega
     . rintro F ⟨S,rfl⟩
       subst hX
       refine⟨_,S.get m0,Nat.zero_ne_one,?_⟩
       replace S:=S.dead
       show Run _ _ _ _ _ _ _ _
       simp only [BS,LB,Nat.reduceLT,Nat.reduceEqDiff,r12,w]
       exact ih (i+1) _ _ _ (by omega) ⟨by omega,G::j,by rw [K];rfl,S,by simp [aa,r10],by simp [aa,r11],by simp [aa]⟩
   . have m: ¬(i:Int)<5:=by omega
     simp only [BS,LB,Nat.reduceLT,r11,r12,m]
     subst K
     refine bS (eR j h (L:=[]) (by rw [List.append_nil];exact S) fun f u=>⟨rfl,_,rfl,g0.trans u.gr⟩)
 . exact⟨by omega,[],rfl,S,by simp [aa],by simp [aa],by simp [aa]⟩
end Go.Ab
end
section
namespace Go.Ab
theorem ar.form{d:Type}{h:Hp}{k:Nat}{enc:d->List Value}{v:Value}{xs:List d}(s:ar h k enc v xs): ∃a n c,v=.slice a n c:=by
 rcases s with⟨rfl,_⟩|⟨b,o,s,c,rfl,_⟩<;>exact⟨_,_,_,rfl⟩
section
variable{M:Nat->Prop}{h0 h:Hp}{E:Env}{L:List (Nat×Ob)}{G:List GL}
def WrK{a:Type}(h:Hp)(k:Nat)(enc:a->List Value)(w:Value)(l:List a):Prop:=l≠ []-> ∃b,w=.slice (some ⟨b,0,some k⟩) l.length l.length/\Row h b (l.flatMap enc) 1
theorem WrK.mo{a:Type}{M:Nat->Prop}{h c:Hp}{k:Nat}{enc:a->List Value}{w:Value}{l:List a}(r:WrK h k enc w l)(g:Mo M h c)(d: ∀b,aq w b-> ¬M b):WrK c k enc w l:=
 fun f=>by obtain⟨b,e,k⟩:=r f;exact⟨b,e,g.has (o:=.row _ 1) k (d b (by rw [e];rfl))⟩
theorem St.cloneW{m:Type}{enc:m->List Value}{ys:List m}(S:St M h0 h L G){t i e:TypeId}{d k md:Nat}{A:List Value}{b:Nat}{x:Value}(o:E.und t=some (.slice e))(p:dZ E e d k A)(q:0<d)
 (r:dJ E i=some false) (s:ar h k enc x ys) (f: ∀x,(enc x).length=k) (u:0<k) (g:(ys.length*k)*(d+1)<=70368744177664) {ts:List TypeId}
 (v:Row h b [] md):
 ∃a v',dg E h (t::i::ts) (.slice (some ⟨b,0,none⟩) 0 0) x=some (a,v')/\St M h0 a L G/\Gr h a/\ar a k enc v' ys/\(∀c,aq v' c->c=b\/h.n<=c)/\WrK a k enc v' ys:=by
 obtain⟨a,v',w,B,C,D,F⟩:=S.cloneSl (enc:=enc) (xs:=[]) o p q r s f u (by simpa using g) (ts:=ts) (b:=b) (md:=md) (by simpa using v)
 refine⟨a,v',w,B,C,by simpa using D,F,fun j=>?_⟩
 obtain⟨H,I,y,J⟩:=S.clone o p q r s.src (bZ f ys).symm (n:=0) (by simp) u (by rw [bZ f];simpa using g) (ts:=ts) v
 have l:dg E h (t::i::ts) (.slice (some ⟨b,0,none⟩) 0 0) x=some (a,v'):=w
 rw [l]at y
 cases y
 rcases J with⟨K,_⟩|⟨z,N,T⟩
 . exact absurd (List.length_eq_zero_iff.1 K) j
 . refine⟨z,by rw [N,Xg],?_⟩
   have:=T.row (b:=z) m0
   simpa using this
end
end Go.Ab

end
section
namespace Go.Ab
open Go.Proofs
set_option maxRecDepth 10000
def Tryz.F1H:=aj t1<|aj t2<|aj t3<|aj t4<|aj t5<|aj t20<|aj t70<|aj t121<|aj r121<|aj t123<|aj t173<|r173
def Tryz.F0g:=aj t1<|aj t2<|aj t3<|aj t28<|aj t29<|aj Z0<|aj t70<|Z2
def Tryz.F0P:=aj t1<|aj t2<|aj t3<|aj t4<|t28
def Tryz.F0Q:=aj t1<|aj t2<|aj t3<|aj t4<|aj t29<|Z2
theorem check1_ok{h0:Hp}(a:h0.t.Sized h0.n){b:Nat}:fK zL 99 [ptrTo b] none h0 fun o rc c=>(∃v,o=.ret v)/\rc=none/\Gr h0 c:=by
 have S:=Si a
 refine enter (n:=17) (rs:=[]) rfl Tryz.e99 rfl rfl rfl (lbt rfl) ?_
 simp only [BS,LB,Nat.reduceLT,Nat.reduceEqDiff,F1H]
 exact bS (cJ ⟨rfl,_,rfl,⟨_,rfl⟩,rfl,S.gr⟩)
theorem check_ok{h0:Hp}(p:h0.t.Sized h0.n){c:Gra}(d:ku c){f j k:Value}(q:di h0 f j k c):aM zL 48 [kB c f j k] h0 .nilIface:=by
 have S:=Si p
 refine ab (n:=6) (rs:=[.cell 2 70]) rfl Tryz.e48 rfl rfl rfl (lbt rfl) ?_
 simp only [BS,Nat.reduceLT,kB]
 refine ag (aZ (by intro x e;cases e)) S ?_;clear S;intro h b S r;simp only [ah]at S
 simp only [BS,F0g]
 refine ag aw S ?_;clear S;intro h s S m
 simp only [BS,LB,Nat.reduceLT,Nat.reduceEqDiff,F0g,S.lds (b:=b) (o:=0) (n:=4) m1 (lbt rfl)]
 refine step_ret (look_ok S.ok d (q.gr S.gr)) ?_;intro v h g;replace S:=S.call g;clear g
 simp only [BS,LB,Nat.reduceLT,Nat.reduceEqDiff]
 refine az (ay S (i:=0) rfl ?_ ?_ ?_ ono) ?_
 . exact(by simp only [F0g])
 . exact(by exact fl_nili)
 . exact XJ (lbt rfl)
 clear S;rintro h ⟨S,t⟩;clear t;simp only [LC,ah,lay,Xr,Xs,Nat.reduceAdd]at S
 simp only [BS]
 refine dp (un_fn (eg (check1_ok S.ok) fun o u w ⟨a,b,g⟩=>⟨a,b,cJ ⟨rfl,?_⟩⟩))
 replace S:=S.call g
 have l:=S.ld (b:=s) (o:=0) m0 rfl
 exact⟨_,tA (by decide) (by simp only [aK,ac,Nat.reduceEqDiff,reduceIte];exact gf Tryz.t70.1 l),rfl,S.gr⟩
theorem vp{h0:Hp}(i:h0.t.Sized h0.n){v:Value}{xs:List Int}(j:ar h0 1 (encI .i64) v xs)(q:xs.length<1000000):Ret zL 105 [v] h0 fun r a=>Gr h0 a/\ar a 1 (encI .i64) r xs/\ ∀c,aq r c->h0.n<=c:=by
 have S:=Si i
 rcases j with⟨rfl,rfl⟩|⟨b,o,s,c,rfl,k,l⟩
 . refine ab (n:=8) (rs:=[.tmp 2]) rfl Tryz.e105 rfl rfl rfl (lbt rfl) ?_
   simp only [BS,LB,ae,Nat.reduceLT,Nat.reduceEqDiff,F0P]
   exact⟨S.gr,.inl ⟨rfl,rfl⟩,fun c d=>d.elim⟩
 . refine ab (n:=8) (rs:=[.tmp 2]) rfl Tryz.e105 rfl rfl rfl (lbt rfl) ?_
   simp only [BS,LB,Nat.reduceLT,Nat.reduceEqDiff,F0P]
   refine ag (bR (by exact Tryz.t28.1) (by exact Tryz.e2E) (by decide) (by rfl)) S ?_;clear S;intro h t S f;simp only [LC,aV,bK,ah,Nat.reduceMul,Nat.reduceAdd,Xj,Xg,Xn,Xt]at S
   simp only [BS,LB,Nat.reduceLT,Nat.reduceEqDiff]
   refine dM (S.cloneSl (enc:=encI .i64) (xs:=[]) Tryz.t28.1 Tryz.e2E (by decide) Tryz.t28.2.2.2.2.2 (.inr ⟨b,o,s,c,rfl,k,S.old l (fun h=>h)⟩) (fun x=>rfl) (by decide) (by simp only [List.length_nil,Xg];omega) (S.row m0)) ?_
   rintro a v ⟨m,g,p,d⟩
   simp only [BS,LB,ae,Nat.reduceLT,Nat.reduceEqDiff]
   refine⟨m.gr,by simpa using p,fun c h=>(d c h).elim (fun e=>by omega) (fun e=>Xo S.fr.n e)⟩
theorem AY{h0:Hp}(i:h0.t.Sized h0.n){v:Value}{xs:List Arc}(j:ar h0 3 (cG) v xs)(q:xs.length<1000000):Ret zL 106 [v] h0 fun r a=>Gr h0 a/\ar a 3 (cG) r xs/\(∀c,aq r c->h0.n<=c)/\WrK a 3 cG r xs:=by
 have S:=Si i
 rcases j with⟨rfl,rfl⟩|⟨b,o,s,c,rfl,k,l⟩
 . refine ab (n:=8) (rs:=[.tmp 2]) rfl Tryz.e106 rfl rfl rfl (lbt rfl) ?_
   simp only [BS,LB,ae,Nat.reduceLT,Nat.reduceEqDiff,F0Q]
   exact⟨S.gr,.inl ⟨rfl,rfl⟩,fun c d=>d.elim,fun h=>absurd rfl h⟩
 . refine ab (n:=8) (rs:=[.tmp 2]) rfl Tryz.e106 rfl rfl rfl (lbt rfl) ?_
   simp only [BS,LB,Nat.reduceLT,Nat.reduceEqDiff,F0Q]
   refine ag (bR (by exact Tryz.t29.1) (by exact Tryz.e108E) (by decide) (by rfl)) S ?_;clear S;intro h t S f;simp only [LC,aV,bK,ah,Nat.reduceMul,Nat.reduceAdd,Xj,Xg,Xn,Xt]at S
   simp only [BS,LB,Nat.reduceLT,Nat.reduceEqDiff]
   refine dM (S.cloneW (enc:=cG) (ys:=xs) Tryz.t29.1 Tryz.e108E (by decide) Tryz.t29.2.2.2.2.2 (.inr ⟨b,o,s,c,rfl,k,S.old l (fun h=>h)⟩) (fun x=>rfl) (by decide) (by omega) (S.row m0)) ?_
   rintro a v ⟨m,g,p,d,w⟩
   simp only [BS,LB,ae,Nat.reduceLT,Nat.reduceEqDiff]
   exact⟨m.gr,p,fun c h=>(d c h).elim (fun e=>by omega) (fun e=>Xo S.fr.n e),w⟩
def Tryz.FZ:=aj t1<|aj t2<|aj t3<|aj t4<|aj t5<|aj t22<|aj t65<|aj t67<|r67
structure oq(h:Hp)(bd:Nat)(vB:Value)(xs:List Int)(a:Nat):Prop where
 sl:ar h 1 (encI .u8) vB xs
 ne: ¬aq vB bd
 few:xs.length<1000000
 at_:a<100000
def drV(xs:List Int)(n a:Nat):Nat:=if h:xs.length=0 then 0 else(an .u8 (xs[a%xs.length]'(Nat.mod_lt _ (by omega))+an .u8 (an .i64 ((a:Int).tdiv (xs.length:Int))))%(n:Int)).toNat
theorem zH{h0:Hp}(B:h0.t.Sized h0.n){d a n:Nat}{f:Value}{xs:List Int}(m:Row h0 d [f,.int .i64 a] 1)(C:oq h0 d f xs a)(K:1<=n)(D:n<1000):
 Ret zL 46 [ptrTo d,.int .i64 n] h0 fun v w=>Mo (· =d) h0 w/\ ∃r x:Nat,v=.int .i64 r/\r<n/\x<=a+1/\Row w d [f,.int .i64 x] 1/\r=drV xs n a:=by
 have S:=St.init1 B (o:=.row [f,.int .i64 a] 1) m
 obtain⟨p,t,L,M⟩:=C
 have N:=p.fl
 have E:an .i64 ((a:Int)+1)=((a+1:Nat):Int):=by rw [wrap64]<;>omega
 have F:an .i64 (((a+1:Nat):Int)-1)=(a:Int):=by rw [wrap64]<;>omega
 have G: ¬(n:Int)<1:=by omega
 by_cases g:xs.length=0
 . have s:(xs.length:Int)=0:=by omega
   refine ab (n:=55) (rs:=[.tmp 4]) rfl Tryz.e46 rfl rfl rfl (lbt rfl) ?_
   simp only [BS,LB,ae,Nat.reduceLT,Nat.reduceEqDiff,FZ,p.lenq,s,S.ld (b:=d) (o:=0) m0 rfl]
   exact⟨S.fr,0,a,rfl,by omega,by omega,S.row m0,by unfold drV;rw [dif_pos g]⟩
 . have s: ¬(xs.length:Int)=0:=by omega
   have j:a%xs.length<xs.length:=Nat.mod_lt _ (by omega)
   have H:(a:Int).tmod (xs.length:Int)=((a%xs.length:Nat):Int):=by rw [XI (by omega)];exact(Int.natCast_emod _ _).symm
   refine ab (n:=55) (rs:=[.tmp 4]) rfl Tryz.e46 rfl rfl rfl (lbt rfl) ?_
   simp only [BS,LB,Nat.reduceLT,Nat.reduceEqDiff,FZ,p.lenq,s,G,E,S.ld (b:=d) (o:=0) m0 rfl,S.ld (b:=d) (o:=1) m0 rfl]
   refine az (ay S (i:=0) rfl ?_ ?_ ?_ ono) ?_
   . exact(by simp only [FZ])
   . exact(by exact aX)
   . exact XJ (lbt rfl)
   clear S;rintro h ⟨S,I⟩;clear I;simp only [LC,ah,lay,Xr,Xs,Nat.reduceAdd]at S
   have k:ar h 1 (encI .u8) f xs:=p.mo S.fr (fun b J e=>t (e▸J))
   obtain⟨c,o,l,u⟩:=k.ix (kd:=.i64) (bO _) j
   have y:(xs.length:Int)≠0:=s
   have A:(n:Int)≠0:=by omega
   simp only [BS]
   refine au (aC rfl) (q:=0) (ps:=[]) (by kernel_rfl) ?_
   simp only [BS,LB,ja,cE,i9,cls,ae,Nat.reduceLT,Nat.reduceEqDiff,Nat.reduceAdd,Nat.reducePow,Nat.reduceDiv,Nat.reduceMod,Nat.reduceLeDiff,FZ,k.lenq,F,kK y,kJ y,kK A,H,l,u,encI,S.ld (b:=d) (o:=0) m0 rfl,S.ld (b:=d) (o:=1) m0 rfl]
   have m:(an .i64 (an .u8 (xs[a%xs.length]+an .u8 (an .i64 ((a:Int).tdiv (xs.length:Int)))))).tmod (n:Int)=((drV xs n a:Nat):Int)/\drV xs n a<n:=by
    unfold drV
    rw [dif_neg g]
    generalize xs[a%xs.length]+an .u8 (an .i64 ((a:Int).tdiv (xs.length:Int)))=z
    have O:=wrap8 z
    rw [wrap64 (by omega) (by omega),XI (by omega)]
    have P:=Int.emod_nonneg (an .u8 z) A
    have Q:=Int.emod_lt_of_pos (an .u8 z) (show(0:Int)<n by omega)
    exact⟨by omega,by omega⟩
   rw [m.1]
   exact⟨S.fr,_,a+1,rfl,m.2,Xy _,S.row m0,rfl⟩
theorem ig{h0:Hp}(i:h0.t.Sized h0.n){b a n:Nat}{d:Value}{xs:List Int}(j:Row h0 b [d,.int .i64 a] 1)(k:oq h0 b d xs a)(l:1<=n)(g:n<1000):
 Ret zL 46 [ptrTo b,.int .i64 n] h0 fun v h=>Mo (· =b) h0 h/\ ∃r c:Nat,v=.int .i64 r/\r<n/\c<=a+1/\Row h b [d,.int .i64 c] 1:=
 (zH i j k l g).mono fun v h ⟨f,r,c,e,m,o,p,_⟩=>⟨f,r,c,e,m,o,p⟩
theorem oq.mo{h g:Hp}{c:Nat}{i:Value}{xs:List Int}{a j:Nat}(d:oq h c i xs a)(f:Mo (· =c) h g)(k:j<100000):oq g c i xs j:=
 ⟨d.sl.mo f (fun b l e=>d.ne (e▸l)),d.ne,d.few,k⟩
theorem oq.gr{h b:Hp}{c:Nat}{e:Value}{xs:List Int}{a:Nat}(d:oq h c e xs a)(g:Gr h b):oq b c e xs a:=⟨d.sl.gr g,d.ne,d.few,d.at_⟩
theorem xd{h0:Hp}(y:h0.t.Sized h0.n){d a:Nat}{e:Value}{xs:List Int}(z:Row h0 d [e,.int .i64 a] 1)(s:oq h0 d e xs a)(D:a+2<100000):
 Ret zL 47 [ptrTo d] h0 fun v t=>Mo (· =d) h0 t/\ ∃r u:Nat,v=.int .i64 r/\r<=2147483647/\u<=a+2/\Row t d [e,.int .i64 u] 1:=by
 have S:=St.init1 y (o:=.row [e,.int .i64 a] 1) z
 refine ab (n:=24) (rs:=[.tmp 2]) rfl Tryz.e47 rfl rfl rfl (lbt rfl) ?_
 simp only [BS,LB,Nat.reduceLT,Nat.reduceEqDiff]
 refine step_ret (ig (n:=12) S.ok (S.row m0) s (by omega) (by omega)) ?_
 rintro v h ⟨f,r,w,rfl,A,B,C⟩
 replace S:=S.call1 (i:=0) rfl f (o':=.row _ _) C
 have c:oq h d e xs w:=s.mo f (by omega)
 simp only [LC]at S
 by_cases p:(r:Int)<3
 . simp only [BS,LB,ae,Nat.reduceLT,Nat.reduceEqDiff,p]
   exact⟨S.fr,0,w,rfl,by omega,by omega,S.row m0⟩
 . by_cases q:(r:Int)<10
   . simp only [BS,LB,Nat.reduceLT,Nat.reduceEqDiff,p,q]
     refine step_ret (ig (n:=9) S.ok (S.row m0) c (by omega) (by omega)) ?_
     rintro v h ⟨f,b,g,rfl,j,k,l⟩
     replace S:=S.call1 (i:=0) rfl f (o':=.row _ _) l
     simp only [LC]at S
     have m:an .i64 (1+(b:Int))=((1+b:Nat):Int):=by rw [wrap64]<;>omega
     simp only [BS,LB,ae,Nat.reduceLT,Nat.reduceEqDiff,m]
     exact⟨S.fr,1+b,g,rfl,by omega,by omega,S.row m0⟩
   . by_cases x:(r:Int)<11
     . simp only [BS,LB,Nat.reduceLT,Nat.reduceEqDiff,p,q,x]
       refine step_ret (ig (n:=20) S.ok (S.row m0) c (by omega) (by omega)) ?_
       rintro v h ⟨f,b,g,rfl,j,k,l⟩
       replace S:=S.call1 (i:=0) rfl f (o':=.row _ _) l
       simp only [LC]at S
       have m:an .i64 (100*(b:Int))=((100*b:Nat):Int):=by rw [wrap64]<;>omega
       simp only [BS,LB,ae,Nat.reduceLT,Nat.reduceEqDiff,m]
       exact⟨S.fr,100*b,g,rfl,by omega,by omega,S.row m0⟩
     . simp only [BS,LB,Nat.reduceLT,Nat.reduceEqDiff,p,q,x]
       refine step_ret (ig (n:=2) S.ok (S.row m0) c (by omega) (by omega)) ?_
       rintro v h ⟨f,b,g,rfl,j,k,l⟩
       replace S:=S.call1 (i:=0) rfl f (o':=.row _ _) l
       simp only [LC]at S
       have m:an .i64 (2147483647-(b:Int))=((2147483647-b:Nat):Int):=by rw [wrap64]<;>omega
       simp only [BS,LB,ae,Nat.reduceLT,Nat.reduceEqDiff,m]
       exact⟨S.fr,2147483647-b,g,rfl,by omega,by omega,S.row m0⟩
end Go.Ab
end

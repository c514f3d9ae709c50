/- Nets, cells, flags: what the functions do (part 1). -/
import Derived.Test.YtdicllcgofpggaaGreatDoorEnv
open Go.Ab.Tryz
open Go.Ab.Tryz renaming abEnv->zB
open And renaming intro->zM
open List renaming length_append->zO,drop_left'->Xa,take->Xb,drop->Xc,take_left'->Xd,flatMap_cons->Xg,getD_eq_getElem?_getD->Xj,range->Xk,length_cons->Xl,append_assoc->Xo,getElem?_map->Xp,flatMap_append->Xq,getElem?_append_right->Xs,getElem?_append_left->Xu,drop_drop->Xv,getElem?_eq_getElem->Xw,take_of_length_le->Xz,length_flatMap->XC,getElem_cons_zero->XE,map_cons->XF,map_const'->XJ,mem_of_getElem?->XK,take_succ_cons->XL,drop_zero->XM,ext_getElem?->XO,getElem_mem->XS,range_succ->XU,getElem_cons_succ->XV,take_left->XX,take_zero->XZ,drop_succ_cons->X2
open Prod renaming snd->Xe
open Nat renaming lt_of_succ_le->Xf,zero_add->Xh,zero_mul->Xi,mul_one->Xn,one_mul->Xr,shiftRight_eq_div_pow->Xt,xor_lt_two_pow->Xy,ble_eq_true_of_le->XA,le_trans->XD,mod_eq_of_lt->XG,pow_succ->XH,mod_two_eq_zero_or_one->XN,blt_eq->XP,xor_self->XQ,mul_comm->XR,div_div_eq_div_mul->XW,blt->XY,xor_zero->X3,le_refl->X5
open Int renaming cast_ofNat_Int->Xm,tmod_eq_emod_of_nonneg->XB
open Bool renaming and_true->Xx
open Option renaming map_some->XI,getD_some->XT,isSome_none->X4
set_option maxHeartbeats 4000000
set_option linter.defProp false
set_option linter.unusedVariables false
set_option linter.unusedSimpArgs false
section
namespace Go.Ab
theorem Si{h:Hp}(a:h.t.Sized h.n):St NoM h h [] []:=St.init a
theorem aj{a b:Prop}(x:a)(y:b):a/\b:=⟨x,y⟩
set_option linter.defProp false in
def LC:=zM @List.set_cons_zero.{0}<|zM @List.set_cons_succ.{0}<|zM @List.cons_append.{0}<|zM @List.nil_append.{0}<|zM @List.append_nil.{0}<|zM @List.length_cons.{0}<|zM @List.length_nil.{0}<|@Nat.add_zero
theorem lbt{a b:Nat}(h:Nat.ble a b=true):a<=b:=Nat.le_of_ble_eq_true h
theorem ono:(1:Nat)≠0:=Nat.one_ne_zero
set_option linter.defProp false in
def LB:=zM @if_true.{1}<|zM @if_false.{1}<|zM @eq_self.{1}<|zM @List.map_cons.{0,0}<|zM @List.map_nil.{0,0}<|zM @List.append_nil.{0}<|zM @List.nil_append.{0}<|zM @List.cons_append.{0}<|zM @List.getElem?_cons_zero.{0}<|zM @List.getElem?_cons_succ.{0}<|zM @List.set_cons_zero.{0}<|zM @List.set_cons_succ.{0}<|zM @List.length_cons.{0}<|zM @List.length_nil.{0}<|zM @Nat.add_zero<|zM @Nat.zero_add<|zM @Nat.mul_one<|zM @Nat.zero_mul<|zM @cond_true.{1}<|zM @cond_false.{1}<|zM @decide_true<|zM @decide_false<|zM @Bool.and_true<|zM @Bool.and_false<|zM @Bool.not_false<|zM @Bool.not_true<|zM @true_and<|zM @and_true<|zM @Option.isSome_some.{0}<|@List.map_toArray.{0,0}
open Go.Proofs
namespace Tryz
abbrev TQ0(i:TypeId)(A:Bool)(S:Nat)(Z:List Value):Prop:=abEnv.agg i=some A/\abEnv.sz i=some S/\abEnv.zero i=some Z/\dV zB i=some false
theorem kTQ0{i:TypeId}{A:Bool}{S:Nat}{Z:List Value}(h:(abEnv.agg i,abEnv.sz i,abEnv.zero i,dV zB i)=(some A,some S,some Z,some false)):TQ0 i A S Z:=by simpa only [Prod.mk.injEq]using h
abbrev TQ1(i:TypeId)(U:TypeDesc)(A:Bool)(S:Nat)(Z:List Value):Prop:=abEnv.und i=some U/\abEnv.agg i=some A/\abEnv.sz i=some S/\abEnv.zero i=some Z/\kY zB i=true
theorem kTQ1{i:TypeId}{U:TypeDesc}{A:Bool}{S:Nat}{Z:List Value}(h:(abEnv.und i,abEnv.agg i,abEnv.sz i,abEnv.zero i,kY zB i)=(some U,some A,some S,some Z,true)):TQ1 i U A S Z:=by simpa only [Prod.mk.injEq]using h
abbrev TQ2(i:TypeId)(U:TypeDesc)(A:Bool)(S:Nat)(Z:List Value):Prop:=abEnv.und i=some U/\abEnv.agg i=some A/\abEnv.sz i=some S/\abEnv.zero i=some Z/\dV zB i=some false
theorem kTQ2{i:TypeId}{U:TypeDesc}{A:Bool}{S:Nat}{Z:List Value}(h:(abEnv.und i,abEnv.agg i,abEnv.sz i,abEnv.zero i,dV zB i)=(some U,some A,some S,some Z,some false)):TQ2 i U A S Z:=by simpa only [Prod.mk.injEq]using h
abbrev TQ3(i:TypeId)(A:Bool)(S:Nat)(Z:List Value)(P:List (Nat×Nat)):Prop:=abEnv.agg i=some A/\abEnv.sz i=some S/\abEnv.zero i=some Z/\kY zB i=true/\dV zB i=some false/\placesOf zB i=some P
theorem kTQ3{i:TypeId}{A:Bool}{S:Nat}{Z:List Value}{P:List (Nat×Nat)}(h:(abEnv.agg i,abEnv.sz i,abEnv.zero i,kY zB i,dV zB i,placesOf zB i)=(some A,some S,some Z,true,some false,some P)):TQ3 i A S Z P:=by simpa only [Prod.mk.injEq]using h
abbrev TQ4(i:TypeId)(U:TypeDesc)(A:Bool)(S:Nat)(Z:List Value):Prop:=abEnv.und i=some U/\abEnv.agg i=some A/\abEnv.sz i=some S/\abEnv.zero i=some Z/\isSl zB i=true/\dV zB i=some false
theorem kTQ4{i:TypeId}{U:TypeDesc}{A:Bool}{S:Nat}{Z:List Value}(h:(abEnv.und i,abEnv.agg i,abEnv.sz i,abEnv.zero i,isSl zB i,dV zB i)=(some U,some A,some S,some Z,true,some false)):TQ4 i U A S Z:=by simpa only [Prod.mk.injEq]using h
abbrev TQ5(i:TypeId)(U:TypeDesc)(A:Bool)(S:Nat)(Z:List Value):Prop:=abEnv.und i=some U/\abEnv.agg i=some A/\abEnv.sz i=some S/\abEnv.zero i=some Z/\oK zB i=true/\kY zB i=true/\dV zB i=some false
theorem kTQ5{i:TypeId}{U:TypeDesc}{A:Bool}{S:Nat}{Z:List Value}(h:(abEnv.und i,abEnv.agg i,abEnv.sz i,abEnv.zero i,oK zB i,kY zB i,dV zB i)=(some U,some A,some S,some Z,true,true,some false)):TQ5 i U A S Z:=by simpa only [Prod.mk.injEq]using h
abbrev TQ6(i:TypeId)(A:Bool)(S:Nat)(Z:List Value):Prop:=abEnv.agg i=some A/\abEnv.sz i=some S/\abEnv.zero i=some Z/\isIface zB i=true/\dV zB i=some false
theorem kTQ6{i:TypeId}{A:Bool}{S:Nat}{Z:List Value}(h:(abEnv.agg i,abEnv.sz i,abEnv.zero i,isIface zB i,dV zB i)=(some A,some S,some Z,true,some false)):TQ6 i A S Z:=by simpa only [Prod.mk.injEq]using h
abbrev TQ7(i:TypeId)(A:Bool)(S:Nat)(Z:List Value):Prop:=abEnv.agg i=some A/\abEnv.sz i=some S/\abEnv.zero i=some Z/\kY zB i=true/\dV zB i=some false
theorem kTQ7{i:TypeId}{A:Bool}{S:Nat}{Z:List Value}(h:(abEnv.agg i,abEnv.sz i,abEnv.zero i,kY zB i,dV zB i)=(some A,some S,some Z,true,some false)):TQ7 i A S Z:=by simpa only [Prod.mk.injEq]using h
abbrev TR0(i:TypeId)(f o1 o2 o3:Nat):Prop:=(∀(b o:Nat) (s:Option Nat),aB zB i (.pointer (some ⟨b,o,s⟩)) 0=some (.pointer (some ⟨b,o+f,none⟩))/\aB zB i (.pointer (some ⟨b,o,s⟩)) 1=some (.pointer (some ⟨b,o+o1,none⟩))/\aB zB i (.pointer (some ⟨b,o,s⟩)) 2=some (.pointer (some ⟨b,o+o2,none⟩))/\aB zB i (.pointer (some ⟨b,o,s⟩)) 3=some (.pointer (some ⟨b,o+o3,none⟩)))/\ ∀a c d e:Value,bF zB i (.agg ⟨[a,c,d,e]⟩) 0=some a/\bF zB i (.agg ⟨[a,c,d,e]⟩) 1=some c/\bF zB i (.agg ⟨[a,c,d,e]⟩) 2=some d/\bF zB i (.agg ⟨[a,c,d,e]⟩) 3=some e
abbrev TR1(i:TypeId)(g o1 o2 o3 h:Nat):Prop:=(∀(b o:Nat) (s:Option Nat),aB zB i (.pointer (some ⟨b,o,s⟩)) 0=some (.pointer (some ⟨b,o+g,none⟩))/\aB zB i (.pointer (some ⟨b,o,s⟩)) 1=some (.pointer (some ⟨b,o+o1,none⟩))/\aB zB i (.pointer (some ⟨b,o,s⟩)) 2=some (.pointer (some ⟨b,o+o2,none⟩))/\aB zB i (.pointer (some ⟨b,o,s⟩)) 3=some (.pointer (some ⟨b,o+o3,none⟩))/\aB zB i (.pointer (some ⟨b,o,s⟩)) 4=some (.pointer (some ⟨b,o+h,none⟩)))/\ ∀a c d e f:Value,bF zB i (.agg ⟨[a,c,d,e,f]⟩) 0=some a/\bF zB i (.agg ⟨[a,c,d,e,f]⟩) 1=some c/\bF zB i (.agg ⟨[a,c,d,e,f]⟩) 2=some d/\bF zB i (.agg ⟨[a,c,d,e,f]⟩) 3=some e/\bF zB i (.agg ⟨[a,c,d,e,f]⟩) 4=some f
abbrev TR2(i:TypeId)(e o1 o2:Nat):Prop:=(∀(b o:Nat) (s:Option Nat),aB zB i (.pointer (some ⟨b,o,s⟩)) 0=some (.pointer (some ⟨b,o+e,none⟩))/\aB zB i (.pointer (some ⟨b,o,s⟩)) 1=some (.pointer (some ⟨b,o+o1,none⟩))/\aB zB i (.pointer (some ⟨b,o,s⟩)) 2=some (.pointer (some ⟨b,o+o2,none⟩)))/\ ∀a c d:Value,bF zB i (.agg ⟨[a,c,d]⟩) 0=some a/\bF zB i (.agg ⟨[a,c,d]⟩) 1=some c/\bF zB i (.agg ⟨[a,c,d]⟩) 2=some d
abbrev TR3(i:TypeId)(l o1 o2 o3:Nat):Prop:=(∀(b o:Nat) (s:Option Nat),aB zB i (.pointer (some ⟨b,o,s⟩)) 0=some (.pointer (some ⟨b,o+l,none⟩))/\aB zB i (.pointer (some ⟨b,o,s⟩)) 1=some (.pointer (some ⟨b,o+o1,none⟩))/\aB zB i (.pointer (some ⟨b,o,s⟩)) 2=some (.pointer (some ⟨b,o+o2,none⟩))/\aB zB i (.pointer (some ⟨b,o,s⟩)) 3=some (.pointer (some ⟨b,o+o3,none⟩)))/\ ∀a c d e f g h j k:Value,bF zB i (.agg ⟨[a,c,d,e,f,g,h,j,k]⟩) 0=some (.agg ⟨[a,c,d,e]⟩)/\bF zB i (.agg ⟨[a,c,d,e,f,g,h,j,k]⟩) 1=some (.agg ⟨[f,g,h]⟩)/\bF zB i (.agg ⟨[a,c,d,e,f,g,h,j,k]⟩) 2=some j/\bF zB i (.agg ⟨[a,c,d,e,f,g,h,j,k]⟩) 3=some k
abbrev TR4(i:TypeId)(d o1:Nat):Prop:=(∀(b o:Nat) (s:Option Nat),aB zB i (.pointer (some ⟨b,o,s⟩)) 0=some (.pointer (some ⟨b,o+d,none⟩))/\aB zB i (.pointer (some ⟨b,o,s⟩)) 1=some (.pointer (some ⟨b,o+o1,none⟩)))/\ ∀a c:Value,bF zB i (.agg ⟨[a,c]⟩) 0=some a/\bF zB i (.agg ⟨[a,c]⟩) 1=some c
abbrev TR5(i:TypeId)(c:Nat):Prop:=(∀(b o:Nat) (s:Option Nat),aB zB i (.pointer (some ⟨b,o,s⟩)) 0=some (.pointer (some ⟨b,o+c,none⟩)))/\ ∀a:Value,bF zB i (.agg ⟨[a]⟩) 0=some a
abbrev TR6(i:TypeId)(p o1 o2 o3 q r t u v w n:Nat):Prop:=(∀(b o:Nat) (s:Option Nat),aB zB i (.pointer (some ⟨b,o,s⟩)) 0=some (.pointer (some ⟨b,o+p,none⟩))/\aB zB i (.pointer (some ⟨b,o,s⟩)) 1=some (.pointer (some ⟨b,o+o1,none⟩))/\aB zB i (.pointer (some ⟨b,o,s⟩)) 2=some (.pointer (some ⟨b,o+o2,none⟩))/\aB zB i (.pointer (some ⟨b,o,s⟩)) 3=some (.pointer (some ⟨b,o+o3,none⟩))/\aB zB i (.pointer (some ⟨b,o,s⟩)) 4=some (.pointer (some ⟨b,o+q,none⟩))/\aB zB i (.pointer (some ⟨b,o,s⟩)) 5=some (.pointer (some ⟨b,o+r,none⟩))/\aB zB i (.pointer (some ⟨b,o,s⟩)) 6=some (.pointer (some ⟨b,o+t,none⟩))/\aB zB i (.pointer (some ⟨b,o,s⟩)) 7=some (.pointer (some ⟨b,o+u,none⟩))/\aB zB i (.pointer (some ⟨b,o,s⟩)) 8=some (.pointer (some ⟨b,o+v,none⟩))/\aB zB i (.pointer (some ⟨b,o,s⟩)) 9=some (.pointer (some ⟨b,o+w,none⟩))/\aB zB i (.pointer (some ⟨b,o,s⟩)) 10=some (.pointer (some ⟨b,o+n,none⟩)))/\ ∀c d e f g h j k l m a:Value,bF zB i (.agg ⟨[c,d,e,f,g,h,j,k,l,m,a]⟩) 0=some c/\bF zB i (.agg ⟨[c,d,e,f,g,h,j,k,l,m,a]⟩) 1=some d/\bF zB i (.agg ⟨[c,d,e,f,g,h,j,k,l,m,a]⟩) 2=some e/\bF zB i (.agg ⟨[c,d,e,f,g,h,j,k,l,m,a]⟩) 3=some f/\bF zB i (.agg ⟨[c,d,e,f,g,h,j,k,l,m,a]⟩) 4=some g/\bF zB i (.agg ⟨[c,d,e,f,g,h,j,k,l,m,a]⟩) 5=some h/\bF zB i (.agg ⟨[c,d,e,f,g,h,j,k,l,m,a]⟩) 6=some j/\bF zB i (.agg ⟨[c,d,e,f,g,h,j,k,l,m,a]⟩) 7=some k/\bF zB i (.agg ⟨[c,d,e,f,g,h,j,k,l,m,a]⟩) 8=some l/\bF zB i (.agg ⟨[c,d,e,f,g,h,j,k,l,m,a]⟩) 9=some m/\bF zB i (.agg ⟨[c,d,e,f,g,h,j,k,l,m,a]⟩) 10=some a
abbrev TR7(i:TypeId)(h o1 o2:Nat):Prop:=(∀(b o:Nat) (s:Option Nat),aB zB i (.pointer (some ⟨b,o,s⟩)) 0=some (.pointer (some ⟨b,o+h,none⟩))/\aB zB i (.pointer (some ⟨b,o,s⟩)) 1=some (.pointer (some ⟨b,o+o1,none⟩))/\aB zB i (.pointer (some ⟨b,o,s⟩)) 2=some (.pointer (some ⟨b,o+o2,none⟩)))/\ ∀a c d e f g:Value,bF zB i (.agg ⟨[a,c,d,e,f,g]⟩) 0=some (.agg ⟨[a,c,d,e]⟩)/\bF zB i (.agg ⟨[a,c,d,e,f,g]⟩) 1=some f/\bF zB i (.agg ⟨[a,c,d,e,f,g]⟩) 2=some g
abbrev TR8(i:TypeId)(h o1 o2 o3 j k:Nat):Prop:=(∀(b o:Nat) (s:Option Nat),aB zB i (.pointer (some ⟨b,o,s⟩)) 0=some (.pointer (some ⟨b,o+h,none⟩))/\aB zB i (.pointer (some ⟨b,o,s⟩)) 1=some (.pointer (some ⟨b,o+o1,none⟩))/\aB zB i (.pointer (some ⟨b,o,s⟩)) 2=some (.pointer (some ⟨b,o+o2,none⟩))/\aB zB i (.pointer (some ⟨b,o,s⟩)) 3=some (.pointer (some ⟨b,o+o3,none⟩))/\aB zB i (.pointer (some ⟨b,o,s⟩)) 4=some (.pointer (some ⟨b,o+j,none⟩))/\aB zB i (.pointer (some ⟨b,o,s⟩)) 5=some (.pointer (some ⟨b,o+k,none⟩)))/\ ∀a c d e f g:Value,bF zB i (.agg ⟨[a,c,d,e,f,g]⟩) 0=some a/\bF zB i (.agg ⟨[a,c,d,e,f,g]⟩) 1=some c/\bF zB i (.agg ⟨[a,c,d,e,f,g]⟩) 2=some d/\bF zB i (.agg ⟨[a,c,d,e,f,g]⟩) 3=some e/\bF zB i (.agg ⟨[a,c,d,e,f,g]⟩) 4=some f/\bF zB i (.agg ⟨[a,c,d,e,f,g]⟩) 5=some g
abbrev TR9(i:TypeId)(g o1 o2:Nat):Prop:=(∀(b o:Nat) (s:Option Nat),aB zB i (.pointer (some ⟨b,o,s⟩)) 0=some (.pointer (some ⟨b,o+g,none⟩))/\aB zB i (.pointer (some ⟨b,o,s⟩)) 1=some (.pointer (some ⟨b,o+o1,none⟩))/\aB zB i (.pointer (some ⟨b,o,s⟩)) 2=some (.pointer (some ⟨b,o+o2,none⟩)))/\ ∀a c d e f:Value,bF zB i (.agg ⟨[a,c,d,e,f]⟩) 0=some a/\bF zB i (.agg ⟨[a,c,d,e,f]⟩) 1=some (.agg ⟨[c,d,e]⟩)/\bF zB i (.agg ⟨[a,c,d,e,f]⟩) 2=some f
abbrev TR10(i:TypeId)(e o1:Nat):Prop:=(∀(b o:Nat) (s:Option Nat),aB zB i (.pointer (some ⟨b,o,s⟩)) 0=some (.pointer (some ⟨b,o+e,none⟩))/\aB zB i (.pointer (some ⟨b,o,s⟩)) 1=some (.pointer (some ⟨b,o+o1,none⟩)))/\ ∀a c d:Value,bF zB i (.agg ⟨[a,c,d]⟩) 0=some (.agg ⟨[a,c]⟩)/\bF zB i (.agg ⟨[a,c,d]⟩) 1=some d
theorem t1:TQ0 1 false 1 [.nilFunc]:=kTQ0 (by kernel_rfl)
theorem t2:TQ1 2 (.int .i64) false 1 [.int .i64 0]:=kTQ1 (by kernel_rfl)
theorem e2E:dP zB 2 8 1 [.int .i64 0]:=⟨⟨_,rfl,by kernel_rfl,by kernel_rfl⟩,t2.2.2.2.1,rfl⟩
theorem t3:TQ1 3 (.int .i64) false 1 [.int .i64 0]:=kTQ1 (by kernel_rfl)
theorem e3E:dP zB 3 8 1 [.int .i64 0]:=⟨⟨_,rfl,by kernel_rfl,by kernel_rfl⟩,t3.2.2.2.1,rfl⟩
theorem t4:TQ2 4 .bool false 1 [.bool false]:=kTQ2 (by kernel_rfl)
theorem e4E:dP zB 4 1 1 [.bool false]:=⟨⟨_,rfl,by kernel_rfl,by kernel_rfl⟩,t4.2.2.2.1,rfl⟩
theorem t5:TQ1 5 (.int .u8) false 1 [.int .u8 0]:=kTQ1 (by kernel_rfl)
theorem e5E:dP zB 5 1 1 [.int .u8 0]:=⟨⟨_,rfl,by kernel_rfl,by kernel_rfl⟩,t5.2.2.2.1,rfl⟩
theorem t6:TQ1 6 (.int .u8) false 1 [.int .u8 0]:=kTQ1 (by kernel_rfl)
theorem t7:TQ3 7 true 4 [.int .i64 0,.int .i64 0,.bool false,.int .u8 0] [(0,1),(1,1),(2,1),(3,1)]:=kTQ3 (by kernel_rfl)
theorem r7:TR0 7 0 1 2 3:=⟨fun _ _ _=>⟨rfl,rfl,rfl,rfl⟩,fun _ _ _ _=>⟨rfl,rfl,rfl,rfl⟩⟩
theorem t8:TQ3 8 true 4 [.int .i64 0,.int .i64 0,.bool false,.int .u8 0] [(0,1),(1,1),(2,1),(3,1)]:=kTQ3 (by kernel_rfl)
theorem r8:TR0 8 0 1 2 3:=⟨fun _ _ _=>⟨rfl,rfl,rfl,rfl⟩,fun _ _ _ _=>⟨rfl,rfl,rfl,rfl⟩⟩
theorem t9:TQ2 9 .string false 1 [.string ⟨#[]⟩]:=kTQ2 (by kernel_rfl)
theorem t10:TQ2 10 .string false 1 [.string ⟨#[]⟩]:=kTQ2 (by kernel_rfl)
theorem t11:TQ2 11 .string false 1 [.string ⟨#[]⟩]:=kTQ2 (by kernel_rfl)
theorem t22:TQ4 22 (.slice 5) false 1 [.slice none 0 0]:=kTQ4 (by kernel_rfl)
theorem t23:TQ4 23 (.slice 2) false 1 [.slice none 0 0]:=kTQ4 (by kernel_rfl)
theorem e23E:dP zB 23 24 1 [.slice none 0 0]:=⟨⟨_,rfl,by kernel_rfl,by kernel_rfl⟩,t23.2.2.2.1,rfl⟩
theorem t25:TQ3 25 true 5 [.slice none 0 0,.slice none 0 0,.slice none 0 0,.int .u8 0,.slice none 0 0] [(0,1),(1,1),(2,1),(3,1),(4,1)]:=kTQ3 (by kernel_rfl)
theorem r25:TR1 25 0 1 2 3 4:=⟨fun _ _ _=>⟨rfl,rfl,rfl,rfl,rfl⟩,fun _ _ _ _ _=>⟨rfl,rfl,rfl,rfl,rfl⟩⟩
theorem t26:TQ2 26 (.array 3 5) true 3 [.int .u8 0,.int .u8 0,.int .u8 0]:=kTQ2 (by kernel_rfl)
theorem t27:TQ5 27 (.pointer 76) false 1 [.pointer none]:=kTQ5 (by kernel_rfl)
theorem t29:TQ1 29 (.int .i64) false 1 [.int .i64 0]:=kTQ1 (by kernel_rfl)
theorem t33:TQ4 33 (.slice 50) false 1 [.slice none 0 0]:=kTQ4 (by kernel_rfl)
theorem t35:TQ4 35 (.slice 90) false 1 [.slice none 0 0]:=kTQ4 (by kernel_rfl)
theorem t37:TQ3 37 true 4 [.int .i64 0,.slice none 0 0,.slice none 0 0,.slice none 0 0] [(0,1),(1,1),(2,1),(3,1)]:=kTQ3 (by kernel_rfl)
theorem r37:TR0 37 0 1 2 3:=⟨fun _ _ _=>⟨rfl,rfl,rfl,rfl⟩,fun _ _ _ _=>⟨rfl,rfl,rfl,rfl⟩⟩
theorem t38:TQ4 38 (.slice 3) false 1 [.slice none 0 0]:=kTQ4 (by kernel_rfl)
theorem e38E:dP zB 38 24 1 [.slice none 0 0]:=⟨⟨_,rfl,by kernel_rfl,by kernel_rfl⟩,t38.2.2.2.1,rfl⟩
theorem t39:TQ4 39 (.slice 23) false 1 [.slice none 0 0]:=kTQ4 (by kernel_rfl)
theorem t41:TQ3 41 true 3 [.slice none 0 0,.slice none 0 0,.slice none 0 0] [(0,1),(1,1),(2,1)]:=kTQ3 (by kernel_rfl)
theorem r41:TR2 41 0 1 2:=⟨fun _ _ _=>⟨rfl,rfl,rfl⟩,fun _ _ _=>⟨rfl,rfl,rfl⟩⟩
theorem t43:TQ3 43 true 9 [.int .i64 0,.slice none 0 0,.slice none 0 0,.slice none 0 0,.slice none 0 0,.slice none 0 0,.slice none 0 0,.slice none 0 0,.string ⟨#[]⟩] [(0,4),(4,3),(7,1),(8,1)]:=kTQ3 (by kernel_rfl)
theorem r43:TR3 43 0 4 7 8:=⟨fun _ _ _=>⟨rfl,rfl,rfl,rfl⟩,fun _ _ _ _ _ _ _ _ _=>⟨rfl,rfl,rfl,rfl⟩⟩
theorem t50:TQ3 50 true 2 [.int .i64 0,.string ⟨#[]⟩] [(0,1),(1,1)]:=kTQ3 (by kernel_rfl)
theorem r50:TR4 50 0 1:=⟨fun _ _ _=>⟨rfl,rfl⟩,fun _ _=>⟨rfl,rfl⟩⟩
theorem e50E:dP zB 50 24 2 [.int .i64 0,.string ⟨#[]⟩]:=⟨⟨_,rfl,by kernel_rfl,by kernel_rfl⟩,t50.2.2.1,rfl⟩
theorem t67:TQ5 67 (.pointer 164) false 1 [.pointer none]:=kTQ5 (by kernel_rfl)
theorem t72:TQ5 72 (.pointer 140) false 1 [.pointer none]:=kTQ5 (by kernel_rfl)
theorem t73:TQ5 73 (.pointer 150) false 1 [.pointer none]:=kTQ5 (by kernel_rfl)
theorem t74:TQ5 74 (.pointer 166) false 1 [.pointer none]:=kTQ5 (by kernel_rfl)
theorem t76:TQ3 76 true 4 [.pointer none,.pointer none,.pointer none,.pointer none] [(0,1),(1,1),(2,1),(3,1)]:=kTQ3 (by kernel_rfl)
theorem r76:TR0 76 0 1 2 3:=⟨fun _ _ _=>⟨rfl,rfl,rfl,rfl⟩,fun _ _ _ _=>⟨rfl,rfl,rfl,rfl⟩⟩
theorem t12:TQ1 12 (.int .u64) false 1 [.int .u64 0]:=kTQ1 (by kernel_rfl)
theorem t13:TQ3 13 true 2 [.string ⟨#[]⟩,.int .u64 0] [(0,1),(1,1)]:=kTQ3 (by kernel_rfl)
theorem r13:TR4 13 0 1:=⟨fun _ _ _=>⟨rfl,rfl⟩,fun _ _=>⟨rfl,rfl⟩⟩
theorem t14:TQ3 14 true 2 [.string ⟨#[]⟩,.int .u64 0] [(0,1),(1,1)]:=kTQ3 (by kernel_rfl)
theorem r14:TR4 14 0 1:=⟨fun _ _ _=>⟨rfl,rfl⟩,fun _ _=>⟨rfl,rfl⟩⟩
theorem t15:TQ5 15 (.pointer 354) false 1 [.pointer none]:=kTQ5 (by kernel_rfl)
theorem t16:TQ5 16 (.pointer 357) false 1 [.pointer none]:=kTQ5 (by kernel_rfl)
theorem t17:TQ5 17 (.pointer 364) false 1 [.pointer none]:=kTQ5 (by kernel_rfl)
theorem t18:TQ3 18 true 1 [.pointer none] [(0,1)]:=kTQ3 (by kernel_rfl)
theorem r18:TR5 18 0:=⟨fun _ _ _=>rfl,fun _=>rfl⟩
theorem t19:TQ3 19 true 1 [.pointer none] [(0,1)]:=kTQ3 (by kernel_rfl)
theorem r19:TR5 19 0:=⟨fun _ _ _=>rfl,fun _=>rfl⟩
theorem t20:TQ6 20 false 1 [.nilIface]:=kTQ6 (by kernel_rfl)
theorem t21:TQ1 21 (.int .i32) false 1 [.int .i32 0]:=kTQ1 (by kernel_rfl)
theorem t24:TQ3 24 true 5 [.slice none 0 0,.slice none 0 0,.slice none 0 0,.int .u8 0,.slice none 0 0] [(0,1),(1,1),(2,1),(3,1),(4,1)]:=kTQ3 (by kernel_rfl)
theorem r24:TR1 24 0 1 2 3 4:=⟨fun _ _ _=>⟨rfl,rfl,rfl,rfl,rfl⟩,fun _ _ _ _ _=>⟨rfl,rfl,rfl,rfl,rfl⟩⟩
theorem t28:TQ0 28 false 1 [.nilFunc]:=kTQ0 (by kernel_rfl)
theorem t48:TQ2 48 (.array 4 5) true 4 [.int .u8 0,.int .u8 0,.int .u8 0,.int .u8 0]:=kTQ2 (by kernel_rfl)
theorem t58:TQ1 58 (.int .u32) false 1 [.int .u32 0]:=kTQ1 (by kernel_rfl)
theorem e58E:dP zB 58 4 1 [.int .u32 0]:=⟨⟨_,rfl,by kernel_rfl,by kernel_rfl⟩,t58.2.2.2.1,rfl⟩
theorem t157:TQ5 157 (.pointer 5) false 1 [.pointer none]:=kTQ5 (by kernel_rfl)
theorem t268:TQ1 268 (.int .u8) false 1 [.int .u8 0]:=kTQ1 (by kernel_rfl)
theorem t354:TQ3 354 true 4 [.pointer none,.pointer none,.pointer none,.string ⟨#[]⟩] [(0,1),(1,1),(2,1),(3,1)]:=kTQ3 (by kernel_rfl)
theorem r354:TR0 354 0 1 2 3:=⟨fun _ _ _=>⟨rfl,rfl,rfl,rfl⟩,fun _ _ _ _=>⟨rfl,rfl,rfl,rfl⟩⟩
theorem t355:TQ2 355 (.array 0 16) true 0 []:=kTQ2 (by kernel_rfl)
theorem t357:TQ7 357 true 0 []:=kTQ7 (by kernel_rfl)
theorem t359:TQ1 359 (.int .u8) false 1 [.int .u8 0]:=kTQ1 (by kernel_rfl)
theorem t360:TQ0 360 false 1 [.nilFunc]:=kTQ0 (by kernel_rfl)
theorem t361:TQ1 361 (.int .i32) false 1 [.int .i32 0]:=kTQ1 (by kernel_rfl)
theorem t362:TQ1 362 (.int .i32) false 1 [.int .i32 0]:=kTQ1 (by kernel_rfl)
theorem t364:TQ3 364 true 11 [.int .u64 0,.int .u64 0,.int .u32 0,.int .u8 0,.int .u8 0,.int .u8 0,.int .u8 0,.nilFunc,.pointer none,.int .i32 0,.int .i32 0] [(0,1),(1,1),(2,1),(3,1),(4,1),(5,1),(6,1),(7,1),(8,1),(9,1),(10,1)]:=kTQ3 (by kernel_rfl)
theorem r364:TR6 364 0 1 2 3 4 5 6 7 8 9 10:=⟨fun _ _ _=>⟨rfl,rfl,rfl,rfl,rfl,rfl,rfl,rfl,rfl,rfl,rfl⟩,fun _ _ _ _ _ _ _ _ _ _ _=>⟨rfl,rfl,rfl,rfl,rfl,rfl,rfl,rfl,rfl,rfl,rfl⟩⟩
theorem t31:TQ0 31 false 1 [.nilFunc]:=kTQ0 (by kernel_rfl)
theorem t57:TQ1 57 (.int .u16) false 1 [.int .u16 0]:=kTQ1 (by kernel_rfl)
theorem e6:abEnv.fn 6=some Tryz.f6:=by kernel_rfl
theorem t32:TQ0 32 false 1 [.nilFunc]:=kTQ0 (by kernel_rfl)
theorem t34:TQ0 34 false 1 [.nilFunc]:=kTQ0 (by kernel_rfl)
theorem t36:TQ3 36 true 4 [.int .i64 0,.slice none 0 0,.slice none 0 0,.slice none 0 0] [(0,1),(1,1),(2,1),(3,1)]:=kTQ3 (by kernel_rfl)
theorem r36:TR0 36 0 1 2 3:=⟨fun _ _ _=>⟨rfl,rfl,rfl,rfl⟩,fun _ _ _ _=>⟨rfl,rfl,rfl,rfl⟩⟩
theorem t40:TQ3 40 true 3 [.slice none 0 0,.slice none 0 0,.slice none 0 0] [(0,1),(1,1),(2,1)]:=kTQ3 (by kernel_rfl)
theorem r40:TR2 40 0 1 2:=⟨fun _ _ _=>⟨rfl,rfl,rfl⟩,fun _ _ _=>⟨rfl,rfl,rfl⟩⟩
theorem t42:TQ3 42 true 9 [.int .i64 0,.slice none 0 0,.slice none 0 0,.slice none 0 0,.slice none 0 0,.slice none 0 0,.slice none 0 0,.slice none 0 0,.string ⟨#[]⟩] [(0,4),(4,3),(7,1),(8,1)]:=kTQ3 (by kernel_rfl)
theorem r42:TR3 42 0 4 7 8:=⟨fun _ _ _=>⟨rfl,rfl,rfl,rfl⟩,fun _ _ _ _ _ _ _ _ _=>⟨rfl,rfl,rfl,rfl⟩⟩
theorem t44:TQ0 44 false 1 [.nilFunc]:=kTQ0 (by kernel_rfl)
theorem t45:TQ0 45 false 1 [.nilFunc]:=kTQ0 (by kernel_rfl)
theorem t46:TQ0 46 false 1 [.nilFunc]:=kTQ0 (by kernel_rfl)
theorem t47:TQ0 47 false 1 [.nilFunc]:=kTQ0 (by kernel_rfl)
theorem t49:TQ3 49 true 2 [.int .i64 0,.string ⟨#[]⟩] [(0,1),(1,1)]:=kTQ3 (by kernel_rfl)
theorem r49:TR4 49 0 1:=⟨fun _ _ _=>⟨rfl,rfl⟩,fun _ _=>⟨rfl,rfl⟩⟩
theorem t63:TQ5 63 (.pointer 65) false 1 [.pointer none]:=kTQ5 (by kernel_rfl)
theorem t65:TQ3 65 true 2 [.slice none 0 0,.int .i64 0] [(0,1),(1,1)]:=kTQ3 (by kernel_rfl)
theorem r65:TR4 65 0 1:=⟨fun _ _ _=>⟨rfl,rfl⟩,fun _ _=>⟨rfl,rfl⟩⟩
theorem t69:TQ6 69 false 1 [.nilIface]:=kTQ6 (by kernel_rfl)
theorem t85:TQ1 85 (.int .u64) false 1 [.int .u64 0]:=kTQ1 (by kernel_rfl)
theorem e85E:dP zB 85 8 1 [.int .u64 0]:=⟨⟨_,rfl,by kernel_rfl,by kernel_rfl⟩,t85.2.2.2.1,rfl⟩
theorem t90:TQ3 90 true 3 [.int .i64 0,.int .i64 0,.int .i64 0] [(0,1),(1,1),(2,1)]:=kTQ3 (by kernel_rfl)
theorem r90:TR2 90 0 1 2:=⟨fun _ _ _=>⟨rfl,rfl,rfl⟩,fun _ _ _=>⟨rfl,rfl,rfl⟩⟩
theorem e90E:dP zB 90 24 3 [.int .i64 0,.int .i64 0,.int .i64 0]:=⟨⟨_,rfl,by kernel_rfl,by kernel_rfl⟩,t90.2.2.1,rfl⟩
theorem t140:TQ3 140 true 4 [.int .i64 0,.slice none 0 0,.slice none 0 0,.slice none 0 0] [(0,1),(1,1),(2,1),(3,1)]:=kTQ3 (by kernel_rfl)
theorem r140:TR0 140 0 1 2 3:=⟨fun _ _ _=>⟨rfl,rfl,rfl,rfl⟩,fun _ _ _ _=>⟨rfl,rfl,rfl,rfl⟩⟩
theorem t150:TQ3 150 true 2 [.slice none 0 0,.int .i64 0] [(0,1),(1,1)]:=kTQ3 (by kernel_rfl)
theorem r150:TR4 150 0 1:=⟨fun _ _ _=>⟨rfl,rfl⟩,fun _ _=>⟨rfl,rfl⟩⟩
theorem t162:TQ4 162 (.slice 38) false 1 [.slice none 0 0]:=kTQ4 (by kernel_rfl)
theorem t164:TQ3 164 true 6 [.int .i64 0,.slice none 0 0,.slice none 0 0,.slice none 0 0,.slice none 0 0,.slice none 0 0] [(0,4),(4,1),(5,1)]:=kTQ3 (by kernel_rfl)
theorem r164:TR7 164 0 4 5:=⟨fun _ _ _=>⟨rfl,rfl,rfl⟩,fun _ _ _ _ _ _=>⟨rfl,rfl,rfl⟩⟩
theorem t166:TQ3 166 true 4 [.int .i64 0,.int .i64 0,.int .i64 0,.slice none 0 0] [(0,1),(1,1),(2,1),(3,1)]:=kTQ3 (by kernel_rfl)
theorem r166:TR0 166 0 1 2 3:=⟨fun _ _ _=>⟨rfl,rfl,rfl,rfl⟩,fun _ _ _ _=>⟨rfl,rfl,rfl,rfl⟩⟩
theorem e7:abEnv.fn 7=some Tryz.f7:=by kernel_rfl
theorem e8:abEnv.fn 8=some Tryz.f8:=by kernel_rfl
theorem t97:TQ5 97 (.pointer 176) false 1 [.pointer none]:=kTQ5 (by kernel_rfl)
theorem t176:TQ3 176 true 1 [.slice none 0 0] [(0,1)]:=kTQ3 (by kernel_rfl)
theorem r176:TR5 176 0:=⟨fun _ _ _=>rfl,fun _=>rfl⟩
theorem t178:TQ4 178 (.slice 85) false 1 [.slice none 0 0]:=kTQ4 (by kernel_rfl)
theorem t180:TQ4 180 (.slice 58) false 1 [.slice none 0 0]:=kTQ4 (by kernel_rfl)
theorem e14:abEnv.fn 14=some Tryz.f14:=by kernel_rfl
theorem e15:abEnv.fn 15=some Tryz.f15:=by kernel_rfl
theorem t111:TQ0 111 false 1 [.nilFunc]:=kTQ0 (by kernel_rfl)
theorem e17:abEnv.fn 17=some Tryz.f17:=by kernel_rfl
theorem t118:TQ5 118 (.pointer 122) false 1 [.pointer none]:=kTQ5 (by kernel_rfl)
theorem t119:TQ5 119 (.pointer 193) false 1 [.pointer none]:=kTQ5 (by kernel_rfl)
theorem t122:TQ3 122 true 2 [.pointer none,.string ⟨#[]⟩] [(0,1),(1,1)]:=kTQ3 (by kernel_rfl)
theorem r122:TR4 122 0 1:=⟨fun _ _ _=>⟨rfl,rfl⟩,fun _ _=>⟨rfl,rfl⟩⟩
theorem t128:TQ5 128 (.pointer 126) false 1 [.pointer none]:=kTQ5 (by kernel_rfl)
theorem t193:TQ3 193 true 3 [.string ⟨#[]⟩,.int .i64 0,.pointer none] [(0,1),(1,1),(2,1)]:=kTQ3 (by kernel_rfl)
theorem r193:TR2 193 0 1 2:=⟨fun _ _ _=>⟨rfl,rfl,rfl⟩,fun _ _ _=>⟨rfl,rfl,rfl⟩⟩
theorem e18:abEnv.fn 18=some Tryz.f18:=by kernel_rfl
theorem e19:abEnv.fn 19=some Tryz.f19:=by kernel_rfl
theorem e20:abEnv.fn 20=some Tryz.f20:=by kernel_rfl
theorem t126:TQ3 126 true 4 [.int .i64 0,.int .i64 0,.int .i64 0,.int .i64 0] [(0,1),(1,1),(2,1),(3,1)]:=kTQ3 (by kernel_rfl)
theorem r126:TR0 126 0 1 2 3:=⟨fun _ _ _=>⟨rfl,rfl,rfl,rfl⟩,fun _ _ _ _=>⟨rfl,rfl,rfl,rfl⟩⟩
theorem t130:TQ3 130 true 1 [.pointer none] [(0,1)]:=kTQ3 (by kernel_rfl)
theorem r130:TR5 130 0:=⟨fun _ _ _=>rfl,fun _=>rfl⟩
theorem e21:abEnv.fn 21=some Tryz.f21:=by kernel_rfl
theorem t136:TQ0 136 false 1 [.nilFunc]:=kTQ0 (by kernel_rfl)
theorem t138:TQ0 138 false 1 [.nilFunc]:=kTQ0 (by kernel_rfl)
theorem e22:abEnv.fn 22=some Tryz.f22:=by kernel_rfl
theorem e23:abEnv.fn 23=some Tryz.f23:=by kernel_rfl
theorem t144:TQ0 144 false 1 [.nilFunc]:=kTQ0 (by kernel_rfl)
theorem t146:TQ0 146 false 1 [.nilFunc]:=kTQ0 (by kernel_rfl)
theorem e24:abEnv.fn 24=some Tryz.f24:=by kernel_rfl
theorem e25:abEnv.fn 25=some Tryz.f25:=by kernel_rfl
theorem e26:abEnv.fn 26=some Tryz.f26:=by kernel_rfl
theorem t154:TQ0 154 false 1 [.nilFunc]:=kTQ0 (by kernel_rfl)
theorem e27:abEnv.fn 27=some Tryz.f27:=by kernel_rfl
theorem t158:TQ0 158 false 1 [.nilFunc]:=kTQ0 (by kernel_rfl)
theorem e28:abEnv.fn 28=some Tryz.f28:=by kernel_rfl
theorem t92:TQ0 92 false 1 [.nilFunc]:=kTQ0 (by kernel_rfl)
theorem t159:TQ3 159 true 3 [.int .i64 0,.bool false,.nilFunc] [(0,1),(1,1),(2,1)]:=kTQ3 (by kernel_rfl)
theorem r159:TR2 159 0 1 2:=⟨fun _ _ _=>⟨rfl,rfl,rfl⟩,fun _ _ _=>⟨rfl,rfl,rfl⟩⟩
theorem t160:TQ2 160 (.array 4 159) true 12 [.int .i64 0,.bool false,.nilFunc,.int .i64 0,.bool false,.nilFunc,.int .i64 0,.bool false,.nilFunc,.int .i64 0,.bool false,.nilFunc]:=kTQ2 (by kernel_rfl)
theorem e29:abEnv.fn 29=some Tryz.f29:=by kernel_rfl
theorem e32:abEnv.fn 32=some Tryz.f32:=by kernel_rfl
theorem e33:abEnv.fn 33=some Tryz.f33:=by kernel_rfl
theorem e34:abEnv.fn 34=some Tryz.f34:=by kernel_rfl
theorem e35:abEnv.fn 35=some Tryz.f35:=by kernel_rfl
theorem e39:abEnv.fn 39=some Tryz.f39:=by kernel_rfl
theorem e40:abEnv.fn 40=some Tryz.f40:=by kernel_rfl
theorem e41:abEnv.fn 41=some Tryz.f41:=by kernel_rfl
theorem e42:abEnv.fn 42=some Tryz.f42:=by kernel_rfl
theorem e43:abEnv.fn 43=some Tryz.f43:=by kernel_rfl
theorem e44:abEnv.fn 44=some Tryz.f44:=by kernel_rfl
theorem e45:abEnv.fn 45=some Tryz.f45:=by kernel_rfl
theorem e46:abEnv.fn 46=some Tryz.f46:=by kernel_rfl
theorem e47:abEnv.fn 47=some Tryz.f47:=by kernel_rfl
theorem t228:TQ4 228 (.slice 4) false 1 [.slice none 0 0]:=kTQ4 (by kernel_rfl)
theorem e48:abEnv.fn 48=some Tryz.f48:=by kernel_rfl
theorem t107:TQ3 107 true 1 [.int .i64 0] [(0,1)]:=kTQ3 (by kernel_rfl)
theorem r107:TR5 107 0:=⟨fun _ _ _=>rfl,fun _=>rfl⟩
theorem e50:abEnv.fn 50=some Tryz.f50:=by kernel_rfl
theorem t110:TQ0 110 false 1 [.nilFunc]:=kTQ0 (by kernel_rfl)
theorem e51:abEnv.fn 51=some Tryz.f51:=by kernel_rfl
theorem e52:abEnv.fn 52=some Tryz.f52:=by kernel_rfl
theorem e53:abEnv.fn 53=some Tryz.f53:=by kernel_rfl
theorem e54:abEnv.fn 54=some Tryz.f54:=by kernel_rfl
theorem t103:TQ0 103 false 1 [.nilFunc]:=kTQ0 (by kernel_rfl)
theorem t185:TQ0 185 false 1 [.nilFunc]:=kTQ0 (by kernel_rfl)
theorem e55:abEnv.fn 55=some Tryz.f55:=by kernel_rfl
theorem t123:TQ0 123 false 1 [.nilFunc]:=kTQ0 (by kernel_rfl)
theorem t188:TQ2 188 (.array 2 39) true 2 [.slice none 0 0,.slice none 0 0]:=kTQ2 (by kernel_rfl)
theorem e56:abEnv.fn 56=some Tryz.f56:=by kernel_rfl
theorem e57:abEnv.fn 57=some Tryz.f57:=by kernel_rfl
theorem e58:abEnv.fn 58=some Tryz.f58:=by kernel_rfl
theorem e59:abEnv.fn 59=some Tryz.f59:=by kernel_rfl
theorem t194:TQ4 194 (.slice 199) false 1 [.slice none 0 0]:=kTQ4 (by kernel_rfl)
theorem t196:TQ0 196 false 1 [.nilFunc]:=kTQ0 (by kernel_rfl)
theorem t199:TQ3 199 true 3 [.int .i64 0,.int .u64 0,.int .u32 0] [(0,1),(1,1),(2,1)]:=kTQ3 (by kernel_rfl)
theorem r199:TR2 199 0 1 2:=⟨fun _ _ _=>⟨rfl,rfl,rfl⟩,fun _ _ _=>⟨rfl,rfl,rfl⟩⟩
theorem e199E:dP zB 199 24 3 [.int .i64 0,.int .u64 0,.int .u32 0]:=⟨⟨_,rfl,by kernel_rfl,by kernel_rfl⟩,t199.2.2.1,rfl⟩
theorem e60:abEnv.fn 60=some Tryz.f60:=by kernel_rfl
theorem e61:abEnv.fn 61=some Tryz.f61:=by kernel_rfl
theorem e62:abEnv.fn 62=some Tryz.f62:=by kernel_rfl
theorem e63:abEnv.fn 63=some Tryz.f63:=by kernel_rfl
theorem t209:TQ0 209 false 1 [.nilFunc]:=kTQ0 (by kernel_rfl)
theorem t210:TQ0 210 false 1 [.nilFunc]:=kTQ0 (by kernel_rfl)
theorem e65:abEnv.fn 65=some Tryz.f65:=by kernel_rfl
theorem e66:abEnv.fn 66=some Tryz.f66:=by kernel_rfl
theorem t213:TQ2 213 (.map 3 3) false 1 [.map none]:=kTQ2 (by kernel_rfl)
theorem t214:TQ0 214 false 1 [.nilFunc]:=kTQ0 (by kernel_rfl)
theorem e67:abEnv.fn 67=some Tryz.f67:=by kernel_rfl
theorem e68:abEnv.fn 68=some Tryz.f68:=by kernel_rfl
theorem e69:abEnv.fn 69=some Tryz.f69:=by kernel_rfl
theorem e70:abEnv.fn 70=some Tryz.f70:=by kernel_rfl
theorem t218:TQ3 218 true 3 [.slice none 0 0,.slice none 0 0,.slice none 0 0] [(0,1),(1,1),(2,1)]:=kTQ3 (by kernel_rfl)
theorem r218:TR2 218 0 1 2:=⟨fun _ _ _=>⟨rfl,rfl,rfl⟩,fun _ _ _=>⟨rfl,rfl,rfl⟩⟩
theorem t220:TQ0 220 false 1 [.nilFunc]:=kTQ0 (by kernel_rfl)
theorem e71:abEnv.fn 71=some Tryz.f71:=by kernel_rfl
theorem e72:abEnv.fn 72=some Tryz.f72:=by kernel_rfl
theorem e73:abEnv.fn 73=some Tryz.f73:=by kernel_rfl
theorem t143:TQ0 143 false 1 [.nilFunc]:=kTQ0 (by kernel_rfl)
theorem e74:abEnv.fn 74=some Tryz.f74:=by kernel_rfl
theorem e75:abEnv.fn 75=some Tryz.f75:=by kernel_rfl
theorem e76:abEnv.fn 76=some Tryz.f76:=by kernel_rfl
theorem e77:abEnv.fn 77=some Tryz.f77:=by kernel_rfl
theorem e78:abEnv.fn 78=some Tryz.f78:=by kernel_rfl
theorem e79:abEnv.fn 79=some Tryz.f79:=by kernel_rfl
theorem t61:TQ0 61 false 1 [.nilFunc]:=kTQ0 (by kernel_rfl)
theorem e80:abEnv.fn 80=some Tryz.f80:=by kernel_rfl
theorem e81:abEnv.fn 81=some Tryz.f81:=by kernel_rfl
theorem e82:abEnv.fn 82=some Tryz.f82:=by kernel_rfl
theorem e83:abEnv.fn 83=some Tryz.f83:=by kernel_rfl
theorem e84:abEnv.fn 84=some Tryz.f84:=by kernel_rfl
theorem e85:abEnv.fn 85=some Tryz.f85:=by kernel_rfl
theorem e86:abEnv.fn 86=some Tryz.f86:=by kernel_rfl
theorem e87:abEnv.fn 87=some Tryz.f87:=by kernel_rfl
theorem e88:abEnv.fn 88=some Tryz.f88:=by kernel_rfl
theorem e89:abEnv.fn 89=some Tryz.f89:=by kernel_rfl
theorem e90:abEnv.fn 90=some Tryz.f90:=by kernel_rfl
theorem e91:abEnv.fn 91=some Tryz.f91:=by kernel_rfl
theorem e92:abEnv.fn 92=some Tryz.f92:=by kernel_rfl
theorem t242:TQ2 242 (.array 8 5) true 8 [.int .u8 0,.int .u8 0,.int .u8 0,.int .u8 0,.int .u8 0,.int .u8 0,.int .u8 0,.int .u8 0]:=kTQ2 (by kernel_rfl)
theorem t243:TQ1 243 (.int .u64) false 1 [.int .u64 0]:=kTQ1 (by kernel_rfl)
theorem e101:abEnv.fn 101=some Tryz.f101:=by kernel_rfl
theorem e102:abEnv.fn 102=some Tryz.f102:=by kernel_rfl
theorem e103:abEnv.fn 103=some Tryz.f103:=by kernel_rfl
theorem t88:TQ0 88 false 1 [.nilFunc]:=kTQ0 (by kernel_rfl)
theorem e104:abEnv.fn 104=some Tryz.f104:=by kernel_rfl
theorem e105:abEnv.fn 105=some Tryz.f105:=by kernel_rfl
theorem e106:abEnv.fn 106=some Tryz.f106:=by kernel_rfl
theorem e107:abEnv.fn 107=some Tryz.f107:=by kernel_rfl
theorem e108:abEnv.fn 108=some Tryz.f108:=by kernel_rfl
theorem e109:abEnv.fn 109=some Tryz.f109:=by kernel_rfl
theorem e110:abEnv.fn 110=some Tryz.f110:=by kernel_rfl
theorem e111:abEnv.fn 111=some Tryz.f111:=by kernel_rfl
theorem e112:abEnv.fn 112=some Tryz.f112:=by kernel_rfl
theorem e113:abEnv.fn 113=some Tryz.f113:=by kernel_rfl
theorem e114:abEnv.fn 114=some Tryz.f114:=by kernel_rfl
theorem t248:TQ0 248 false 1 [.nilFunc]:=kTQ0 (by kernel_rfl)
theorem e115:abEnv.fn 115=some Tryz.f115:=by kernel_rfl
theorem e116:abEnv.fn 116=some Tryz.f116:=by kernel_rfl
theorem e117:abEnv.fn 117=some Tryz.f117:=by kernel_rfl
theorem e118:abEnv.fn 118=some Tryz.f118:=by kernel_rfl
theorem e119:abEnv.fn 119=some Tryz.f119:=by kernel_rfl
theorem e120:abEnv.fn 120=some Tryz.f120:=by kernel_rfl
theorem e121:abEnv.fn 121=some Tryz.f121:=by kernel_rfl
theorem e122:abEnv.fn 122=some Tryz.f122:=by kernel_rfl
theorem e123:abEnv.fn 123=some Tryz.f123:=by kernel_rfl
theorem e124:abEnv.fn 124=some Tryz.f124:=by kernel_rfl
theorem e125:abEnv.fn 125=some Tryz.f125:=by kernel_rfl
theorem t203:TQ3 203 true 1 [.pointer none] [(0,1)]:=kTQ3 (by kernel_rfl)
theorem r203:TR5 203 0:=⟨fun _ _ _=>rfl,fun _=>rfl⟩
theorem e126:abEnv.fn 126=some Tryz.f126:=by kernel_rfl
theorem t253:TQ0 253 false 1 [.nilFunc]:=kTQ0 (by kernel_rfl)
theorem t255:TQ0 255 false 1 [.nilFunc]:=kTQ0 (by kernel_rfl)
theorem e255E:dP zB 255 8 1 [.nilFunc]:=⟨⟨_,rfl,by kernel_rfl,by kernel_rfl⟩,t255.2.2.1,rfl⟩
theorem t257:TQ4 257 (.slice 255) false 1 [.slice none 0 0]:=kTQ4 (by kernel_rfl)
theorem t259:TQ3 259 true 6 [.int .i64 0,.int .i64 0,.int .i64 0,.int .i64 0,.int .i64 0,.int .i64 0] [(0,1),(1,1),(2,1),(3,1),(4,1),(5,1)]:=kTQ3 (by kernel_rfl)
theorem r259:TR8 259 0 1 2 3 4 5:=⟨fun _ _ _=>⟨rfl,rfl,rfl,rfl,rfl,rfl⟩,fun _ _ _ _ _ _=>⟨rfl,rfl,rfl,rfl,rfl,rfl⟩⟩
theorem e259E:dP zB 259 48 6 [.int .i64 0,.int .i64 0,.int .i64 0,.int .i64 0,.int .i64 0,.int .i64 0]:=⟨⟨_,rfl,by kernel_rfl,by kernel_rfl⟩,t259.2.2.1,rfl⟩
theorem e127:abEnv.fn 127=some Tryz.f127:=by kernel_rfl
theorem e129:abEnv.fn 129=some Tryz.f129:=by kernel_rfl
theorem e130:abEnv.fn 130=some Tryz.f130:=by kernel_rfl
theorem e131:abEnv.fn 131=some Tryz.f131:=by kernel_rfl
theorem e132:abEnv.fn 132=some Tryz.f132:=by kernel_rfl
theorem e133:abEnv.fn 133=some Tryz.f133:=by kernel_rfl
theorem e134:abEnv.fn 134=some Tryz.f134:=by kernel_rfl
theorem e135:abEnv.fn 135=some Tryz.f135:=by kernel_rfl
theorem e136:abEnv.fn 136=some Tryz.f136:=by kernel_rfl
theorem e137:abEnv.fn 137=some Tryz.f137:=by kernel_rfl
theorem t101:TQ0 101 false 1 [.nilFunc]:=kTQ0 (by kernel_rfl)
theorem t102:TQ0 102 false 1 [.nilFunc]:=kTQ0 (by kernel_rfl)
theorem t273:TQ5 273 (.pointer 279) false 1 [.pointer none]:=kTQ5 (by kernel_rfl)
theorem t274:TQ5 274 (.pointer 324) false 1 [.pointer none]:=kTQ5 (by kernel_rfl)
theorem t279:TQ3 279 true 5 [.pointer none,.slice none 0 0,.slice none 0 0,.slice none 0 0,.map none] [(0,1),(1,3),(4,1)]:=kTQ3 (by kernel_rfl)
theorem r279:TR9 279 0 1 4:=⟨fun _ _ _=>⟨rfl,rfl,rfl⟩,fun _ _ _ _ _=>⟨rfl,rfl,rfl⟩⟩
theorem t284:TQ0 284 false 1 [.nilFunc]:=kTQ0 (by kernel_rfl)
theorem t322:TQ3 322 true 2 [.slice none 0 0,.map none] [(0,1),(1,1)]:=kTQ3 (by kernel_rfl)
theorem r322:TR4 322 0 1:=⟨fun _ _ _=>⟨rfl,rfl⟩,fun _ _=>⟨rfl,rfl⟩⟩
theorem t324:TQ3 324 true 3 [.slice none 0 0,.map none,.int .i64 0] [(0,2),(2,1)]:=kTQ3 (by kernel_rfl)
theorem r324:TR10 324 0 2:=⟨fun _ _ _=>⟨rfl,rfl⟩,fun _ _ _=>⟨rfl,rfl⟩⟩
theorem e138:abEnv.fn 138=some Tryz.f138:=by kernel_rfl
theorem e139:abEnv.fn 139=some Tryz.f139:=by kernel_rfl
theorem e140:abEnv.fn 140=some Tryz.f140:=by kernel_rfl
theorem e141:abEnv.fn 141=some Tryz.f141:=by kernel_rfl
theorem e142:abEnv.fn 142=some Tryz.f142:=by kernel_rfl
theorem e143:abEnv.fn 143=some Tryz.f143:=by kernel_rfl
theorem e144:abEnv.fn 144=some Tryz.f144:=by kernel_rfl
theorem e145:abEnv.fn 145=some Tryz.f145:=by kernel_rfl
theorem e146:abEnv.fn 146=some Tryz.f146:=by kernel_rfl
theorem t225:TQ0 225 false 1 [.nilFunc]:=kTQ0 (by kernel_rfl)
theorem e147:abEnv.fn 147=some Tryz.f147:=by kernel_rfl
theorem e148:abEnv.fn 148=some Tryz.f148:=by kernel_rfl
theorem e149:abEnv.fn 149=some Tryz.f149:=by kernel_rfl
theorem e150:abEnv.fn 150=some Tryz.f150:=by kernel_rfl
theorem e151:abEnv.fn 151=some Tryz.f151:=by kernel_rfl
theorem e152:abEnv.fn 152=some Tryz.f152:=by kernel_rfl
theorem e153:abEnv.fn 153=some Tryz.f153:=by kernel_rfl
theorem e154:abEnv.fn 154=some Tryz.f154:=by kernel_rfl
theorem t301:TQ2 301 (.array 16 58) true 16 [.int .u32 0,.int .u32 0,.int .u32 0,.int .u32 0,.int .u32 0,.int .u32 0,.int .u32 0,.int .u32 0,.int .u32 0,.int .u32 0,.int .u32 0,.int .u32 0,.int .u32 0,.int .u32 0,.int .u32 0,.int .u32 0]:=kTQ2 (by kernel_rfl)
theorem e163:abEnv.fn 163=some Tryz.f163:=by kernel_rfl
theorem e164:abEnv.fn 164=some Tryz.f164:=by kernel_rfl
theorem e165:abEnv.fn 165=some Tryz.f165:=by kernel_rfl
theorem e166:abEnv.fn 166=some Tryz.f166:=by kernel_rfl
theorem e167:abEnv.fn 167=some Tryz.f167:=by kernel_rfl
theorem e168:abEnv.fn 168=some Tryz.f168:=by kernel_rfl
theorem e169:abEnv.fn 169=some Tryz.f169:=by kernel_rfl
theorem t249:TQ0 249 false 1 [.nilFunc]:=kTQ0 (by kernel_rfl)
theorem e170:abEnv.fn 170=some Tryz.f170:=by kernel_rfl
theorem e171:abEnv.fn 171=some Tryz.f171:=by kernel_rfl
theorem e172:abEnv.fn 172=some Tryz.f172:=by kernel_rfl
theorem e173:abEnv.fn 173=some Tryz.f173:=by kernel_rfl
theorem e174:abEnv.fn 174=some Tryz.f174:=by kernel_rfl
theorem t305:TQ4 305 (.slice 259) false 1 [.slice none 0 0]:=kTQ4 (by kernel_rfl)
theorem e175:abEnv.fn 175=some Tryz.f175:=by kernel_rfl
theorem e176:abEnv.fn 176=some Tryz.f176:=by kernel_rfl
theorem e177:abEnv.fn 177=some Tryz.f177:=by kernel_rfl
theorem e178:abEnv.fn 178=some Tryz.f178:=by kernel_rfl
theorem e179:abEnv.fn 179=some Tryz.f179:=by kernel_rfl
theorem e180:abEnv.fn 180=some Tryz.f180:=by kernel_rfl
theorem e181:abEnv.fn 181=some Tryz.f181:=by kernel_rfl
theorem e182:abEnv.fn 182=some Tryz.f182:=by kernel_rfl
theorem e187:abEnv.fn 187=some Tryz.f187:=by kernel_rfl
theorem t320:TQ4 320 (.slice 328) false 1 [.slice none 0 0]:=kTQ4 (by kernel_rfl)
theorem t328:TQ3 328 true 2 [.int .i64 0,.int .i64 0] [(0,1),(1,1)]:=kTQ3 (by kernel_rfl)
theorem r328:TR4 328 0 1:=⟨fun _ _ _=>⟨rfl,rfl⟩,fun _ _=>⟨rfl,rfl⟩⟩
theorem e328E:dP zB 328 16 2 [.int .i64 0,.int .i64 0]:=⟨⟨_,rfl,by kernel_rfl,by kernel_rfl⟩,t328.2.2.1,rfl⟩
theorem e188:abEnv.fn 188=some Tryz.f188:=by kernel_rfl
theorem e189:abEnv.fn 189=some Tryz.f189:=by kernel_rfl
theorem e190:abEnv.fn 190=some Tryz.f190:=by kernel_rfl
theorem e191:abEnv.fn 191=some Tryz.f191:=by kernel_rfl
theorem e192:abEnv.fn 192=some Tryz.f192:=by kernel_rfl
theorem e193:abEnv.fn 193=some Tryz.f193:=by kernel_rfl
theorem e194:abEnv.fn 194=some Tryz.f194:=by kernel_rfl
theorem e195:abEnv.fn 195=some Tryz.f195:=by kernel_rfl
theorem e196:abEnv.fn 196=some Tryz.f196:=by kernel_rfl
theorem e197:abEnv.fn 197=some Tryz.f197:=by kernel_rfl
theorem e198:abEnv.fn 198=some Tryz.f198:=by kernel_rfl
theorem e199:abEnv.fn 199=some Tryz.f199:=by kernel_rfl
theorem e200:abEnv.fn 200=some Tryz.f200:=by kernel_rfl
theorem e201:abEnv.fn 201=some Tryz.f201:=by kernel_rfl
theorem e202:abEnv.fn 202=some Tryz.f202:=by kernel_rfl
theorem e203:abEnv.fn 203=some Tryz.f203:=by kernel_rfl
theorem e204:abEnv.fn 204=some Tryz.f204:=by kernel_rfl
theorem e209:abEnv.fn 209=some Tryz.f209:=by kernel_rfl
theorem e210:abEnv.fn 210=some Tryz.f210:=by kernel_rfl
theorem e211:abEnv.fn 211=some Tryz.f211:=by kernel_rfl
theorem e212:abEnv.fn 212=some Tryz.f212:=by kernel_rfl
theorem t306:TQ0 306 false 1 [.nilFunc]:=kTQ0 (by kernel_rfl)
theorem e213:abEnv.fn 213=some Tryz.f213:=by kernel_rfl
theorem e214:abEnv.fn 214=some Tryz.f214:=by kernel_rfl
theorem e218:abEnv.fn 218=some Tryz.f218:=by kernel_rfl
theorem t344:TQ5 344 (.pointer 322) false 1 [.pointer none]:=kTQ5 (by kernel_rfl)
theorem e219:abEnv.fn 219=some Tryz.f219:=by kernel_rfl
theorem e220:abEnv.fn 220=some Tryz.f220:=by kernel_rfl
theorem e221:abEnv.fn 221=some Tryz.f221:=by kernel_rfl
theorem t296:TQ0 296 false 1 [.nilFunc]:=kTQ0 (by kernel_rfl)
theorem e222:abEnv.fn 222=some Tryz.f222:=by kernel_rfl
theorem t331:TQ0 331 false 1 [.nilFunc]:=kTQ0 (by kernel_rfl)
theorem e223:abEnv.fn 223=some Tryz.f223:=by kernel_rfl
theorem e224:abEnv.fn 224=some Tryz.f224:=by kernel_rfl
theorem e225:abEnv.fn 225=some Tryz.f225:=by kernel_rfl
theorem e226:abEnv.fn 226=some Tryz.f226:=by kernel_rfl
theorem e227:abEnv.fn 227=some Tryz.f227:=by kernel_rfl
theorem e228:abEnv.fn 228=some Tryz.f228:=by kernel_rfl
theorem e229:abEnv.fn 229=some Tryz.f229:=by kernel_rfl
theorem e230:abEnv.fn 230=some Tryz.f230:=by kernel_rfl
theorem e231:abEnv.fn 231=some Tryz.f231:=by kernel_rfl
theorem e232:abEnv.fn 232=some Tryz.f232:=by kernel_rfl
theorem e233:abEnv.fn 233=some Tryz.f233:=by kernel_rfl
theorem e235:abEnv.fn 235=some Tryz.f235:=by kernel_rfl
theorem e236:abEnv.fn 236=some Tryz.f236:=by kernel_rfl
theorem e237:abEnv.fn 237=some Tryz.f237:=by kernel_rfl
theorem e238:abEnv.fn 238=some Tryz.f238:=by kernel_rfl
theorem e239:abEnv.fn 239=some Tryz.f239:=by kernel_rfl
theorem t351:TQ0 351 false 1 [.nilFunc]:=kTQ0 (by kernel_rfl)
theorem e240:abEnv.fn 240=some Tryz.f240:=by kernel_rfl
theorem e241:abEnv.fn 241=some Tryz.f241:=by kernel_rfl
theorem e242:abEnv.fn 242=some Tryz.f242:=by kernel_rfl
theorem e243:abEnv.fn 243=some Tryz.f243:=by kernel_rfl
theorem e244:abEnv.fn 244=some Tryz.f244:=by kernel_rfl
theorem e245:abEnv.fn 245=some Tryz.f245:=by kernel_rfl
theorem e246:abEnv.fn 246=some Tryz.f246:=by kernel_rfl
theorem e247:abEnv.fn 247=some Tryz.f247:=by kernel_rfl
theorem e248:abEnv.fn 248=some Tryz.f248:=by kernel_rfl
theorem e249:abEnv.fn 249=some Tryz.f249:=by kernel_rfl
theorem e250:abEnv.fn 250=some Tryz.f250:=by kernel_rfl
theorem e251:abEnv.fn 251=some Tryz.f251:=by kernel_rfl
end Tryz
end Go.Ab

end
section
namespace Go.Ab
set_option maxRecDepth 100000
def Tryz.F0:=aj t1<|aj t2<|aj t3<|aj t4<|aj t5<|aj t157<|aj t22<|aj t74<|aj t158<|aj t166<|aj r166<|aj t6<|aj t7<|aj r7<|aj t38<|aj t154<|aj t8<|aj r8<|aj t9<|aj t10<|aj t11<|aj t58<|aj t243<|aj t301<|aj t88<|aj t23<|aj t351<|aj t35<|aj t37<|aj r37<|aj t67<|aj t90<|aj r90<|aj t162<|aj t164<|aj r164<|aj t20<|aj t209<|aj t331<|aj t29<|aj t213<|aj t218<|aj r218<|aj t273<|aj t274<|aj t279<|aj r279<|aj t322<|aj r322<|aj t324<|aj r324<|aj t12<|aj t13<|aj r13<|aj t14<|aj r14<|aj t15<|aj t16<|aj t17<|aj t101<|aj t102<|aj t220<|aj t268<|aj t284<|aj t354<|aj r354<|aj t355<|aj t357<|aj t359<|aj t360<|aj t361<|aj t362<|aj t364<|aj r364<|aj t69<|aj t119<|aj t126<|aj r126<|aj t128<|aj t193<|aj r193<|aj t85<|aj t118<|aj t122<|aj r122<|aj t199<|aj r199<|aj t249<|aj t18<|aj r18<|aj t19<|aj r19<|aj t21<|aj t33<|aj t50<|aj r50<|aj t194<|aj t196<|aj t73<|aj t150<|aj r150<|aj t214<|aj t228<|aj t225<|aj t26<|aj t97<|aj t176<|aj r176<|aj t178<|aj t180<|aj t320<|aj t328<|aj r328<|aj t344<|aj t296<|aj t24<|aj r24<|aj t25<|aj r25<|aj t27<|aj t28<|aj t31<|aj t57<|aj t72<|aj t76<|aj r76<|aj t103<|aj t185<|aj t39<|aj t123<|aj t140<|aj r140<|aj t188<|aj t107<|aj r107<|aj t111<|aj t92<|aj t159<|aj r159<|aj t160<|aj t110<|aj t32<|aj t34<|aj t36<|aj r36<|aj t40<|aj r40<|aj t41<|aj r41<|aj t42<|aj r42<|aj t43<|aj r43<|aj t44<|aj t45<|aj t46<|aj t47<|aj t48<|aj t49<|aj r49<|aj t63<|aj t65<|aj r65<|aj t242<|aj t259<|aj r259<|aj t305<|aj t306<|aj t210<|aj t130<|aj r130<|aj t61<|aj t253<|aj t203<|aj r203<|aj t255<|aj t257<|aj t138<|aj t144<|aj t136<|aj t248<|aj t143<|t146
def BZ:=aj BS<|aj LB<|F0
end Go.Ab

end
section
namespace Go.Ab
section
variable(A:List Arc)(f:Arc->Nat)
def outs(j v:Nat):List Nat:=(Xk j).filter fun i=>decide (f (A.getD i default)=v)
def start:Nat->Nat
 |0=>0|v+1=>start v+(outs A f A.length v).length
theorem iS(j v:Nat):outs A f (j+1) v=outs A f j v++(if f (A.getD j default)=v then [j]else []):=by simp_all[outs,XU,List.filter_append,default,List.filter_cons,List.filter_nil,decide_true,if_true]
theorem outs_pre{j k:Nat}(h:j<=k)(v:Nat): ∃l,outs A f k v=outs A f j v++l:=by
 induction k with
 |zero=>simp_all| succ k a=>
   by_cases b:j=k+1
   . simp_all
   grind[iS,Xo]
theorem yf{j k:Nat}(h:j<=k)(v:Nat):(outs A f j v).length<=(outs A f k v).length:=by obtain⟨l,a⟩:=outs_pre A f h v;grind
theorem start_eq(v:Nat):start A f v=((Xk A.length).filter fun i=>decide (f (A.getD i default)<v)).length:=by
 have a: ∀(l:List Nat) (v:Nat),(l.filter fun i=>decide (f (A.getD i default)<v+1)).length=(l.filter fun i=>decide (f (A.getD i default)<v)).length+(l.filter fun i=>decide (f (A.getD i default)=v)).length:=by
  intro l v
  induction l with
  |nil=>rfl| cons x l b=>grind
 induction v with
 |zero=>rw [start];symm;simp_all|succ v b=>rw [start,b,a];rfl
theorem qZ(v:Nat):start A f v+(outs A f A.length v).length<=A.length:=by have:=start_eq A f (v+1);grind[start,XD,List.length_filter_le]
theorem xI{u v:Nat}(h:u<v):start A f u+(outs A f A.length u).length<=start A f v:=by
 induction v with
 |zero=>omega| succ v a=>rw [start];grind
theorem B3{u v r s:Nat}(b:r<(outs A f A.length u).length)(c:s<(outs A f A.length v).length)(h:start A f u+r=start A f v+s):u=v/\r=s:=by
 rcases Nat.lt_trichotomy u v with a|a|a
 . have:=xI A f a;omega
 . grind
 . have:=xI A f a;omega
end
def eS(x:Nat):List Value:=[.int .i64 x]
theorem iC(x:Nat):(eS x).length=1:=rfl
def ia(h:Hp)(m:Nat)(v:Value)(N:Nat)(R:Nat->List Nat):Prop:=
 ∃a b,v=.slice (some ⟨a,0,none⟩) N N/\m<=a/\Row h a b 1/\b.length=N/\ ∀i,i<N-> ∃w,b[i]? =some w/\ay h 1 eS w (R i)/\ ∀c,ar w c->m<=c
theorem ia.mo{M:Nat->Prop}{h d:Hp}{v:Value}{m N:Nat}{R:Nat->List Nat}(r:ia h m v N R)(g:Mo M h d)(s: ∀b,M b->b<m):ia d m v N R:=by obtain⟨f,e,j,t,k,l,n⟩:=r;refine⟨f,e,j,by omega,g.has (o:=.row e 1) k (fun h=>by grind),l,fun i p=>?_⟩;obtain⟨w,a,b,c⟩:=n i p;exact⟨w,a,b.mo g fun x q u=>by grind,fun x q=>by grind⟩
theorem ia.gr{h a:Hp}{v:Value}{m N:Nat}{R:Nat->List Nat}(g:Gr h a)(r:ia h m v N R):ia a m v N R:=
 r.mo (M:=NoM) g.fr (fun _ h=>h.elim)
theorem ia.low{h:Hp}{v:Value}{m a N:Nat}{R:Nat->List Nat}(r:ia h m v N R)(g:a<=m):ia h a v N R:=by
 obtain⟨b,c,d,j,e,f,k⟩:=r;exact⟨b,c,d,by omega,e,f,fun i l=>by
  grind⟩
structure bW(h:Hp)(m:Nat)(p:Value)(γ:Gra):Prop where
 ex: ∃b vx vy va vo vi,p=ptrTo b/\Row h b [.int .i64 γ.nodes,vx,vy,va,vo,vi] 1/\dh h vx vy va γ/\ia h m vo γ.nodes (outs γ.arcs Arc.s γ.arcs.length)/\ia h m vi γ.nodes (outs γ.arcs Arc.t γ.arcs.length)/\m<=b/\ ∀c,ar vx c\/ar vy c\/ar va c->m<=c
theorem dh.mo{M:Nat->Prop}{h i:Hp}{b d e:Value}{j:Gra}(a:dh h b d e j)(g:Mo M h i)(f: ∀c,ar b c\/ar d c\/ar e c-> ¬M c):dh i b d e j:=
 ⟨a.X.mo g fun c h=>f c (.inl h),a.Y.mo g fun c h=>f c (.inr (.inl h)),a.A.mo g fun c h=>f c (.inr (.inr h))⟩
theorem bW.mo{M:Nat->Prop}{h a:Hp}{m:Nat}{p:Value}{d:Gra}(n:bW h m p d)(g:Mo M h a)(e: ∀b,M b->b<m):bW a m p d:=by obtain⟨b,f,i,j,k,l,q,r,s,t,u,v,w⟩:=n.ex;exact⟨b,f,i,j,k,l,q,g.has (o:=.row _ 1) r (fun h=>by grind),s.mo g (fun c x y=>by grind),t.mo g e,u.mo g e,v,w⟩
theorem bW.gr{h a:Hp}{m:Nat}{p:Value}{b:Gra}(n:bW h m p b)(g:Gr h a):bW a m p b:=n.mo (M:=NoM) g.fr (fun _ h=>h.elim)
theorem kD{a:Type}{N k:Nat}{F F':Nat->a}(b: ∀i,i<N->i≠k->F' i=F i):((Xk N).map F).set k (F' k)=(Xk N).map F':=by refine XO fun i=>?_;grind
theorem n9{a:Type}{N k:Nat}{F:Nat->a}(b:k<N):((Xk N).map F)[k]? =some (F k):=by simp [b]
end Go.Ab

end
section
namespace Go.Ab
def j8(r:Nat):Nat:=(r>>>1) ^^^(if r%2=1 then 3988292384 else 0)
def da:Nat->Nat->Nat
 |0,r=>r|k+1,r=>da k (j8 r)
theorem crcN_succ(k r:Nat):da (k+1) r=j8 (da k r):=by
 induction k generalizing r with
 |zero=>rfl|succ k a=>exact a (j8 r)
theorem vS(j k r:Nat):da (j+k) r=da j (da k r):=by
 induction k generalizing r with
 |zero=>rfl|succ k a=>exact a (j8 r)
theorem crcS_xor(a b:Nat):j8 (a ^^^b)=j8 a ^^^j8 b:=by
 unfold j8;rw [Nat.shiftRight_xor_distrib,show(a ^^^b)%2=(a%2) ^^^(b%2)from Nat.xor_mod_two_pow (n:=1)];rcases XN a with c|c<;>rcases XN b with d|d<;>
  simp only [c,d,XQ,X3,Nat.zero_xor,if_true,if_false,seval]
 . ac_rfl
 . ac_rfl
 . rw [show a>>>1 ^^^3988292384 ^^^(b>>>1 ^^^3988292384)=a>>>1 ^^^b>>>1 ^^^(3988292384 ^^^3988292384) by ac_rfl,XQ,X3]
theorem vq(k a b:Nat):da k (a ^^^b)=da k a ^^^da k b:=by
 induction k generalizing a b with
 |zero=>rfl|succ k c=>show da k _=da k _ ^^^da k _;rw [crcS_xor,c]
theorem vZ(k x:Nat):da k (2 ^k*x)=x:=by
 induction k generalizing x with
 |zero=>show 2 ^0*x=x;omega| succ k a=>have:j8 (2 ^(k+1)*x)=2 ^k*x:=(by unfold j8;have e:2 ^(k+1)*x=2*(2 ^k*x):=(by rw [XH,XR _ 2,Nat.mul_assoc]);rw [e,if_neg (by omega),X3,Xt];omega);show da k (j8 _)=x;rw [this,a]
theorem zo(k r:Nat):r=(2 ^k*(r/2 ^k)) ^^^(r%2 ^k):=by
 refine Nat.eq_of_testBit_eq fun i=>?_;rw [Nat.testBit_xor,Nat.testBit_two_pow_mul,Nat.testBit_mod_two_pow,Nat.testBit_div_two_pow];by_cases h:k<=i
 . simp [h,Nat.not_lt.2 h,Nat.sub_add_cancel h]
 . simp [h,Nat.lt_of_not_le h]
theorem xw(k r:Nat):da k r=(r>>>k) ^^^da k (r%2 ^k):=by have:=vq k (2 ^k*(r/2 ^k)) (r%2 ^k);rw [<-zo,vZ,<-Xt]at this;exact this
theorem crcS_lt{r:Nat}(h:r<4294967296):j8 r<4294967296:=by
 unfold j8;refine Xy (n:=32) ?_ ?_
 . rw [Xt];omega
 . split<;>decide
theorem yp{k r:Nat}(h:r<4294967296):da k r<4294967296:=by
 induction k generalizing r with
 |zero=>exact h|succ k a=>exact a (crcS_lt h)
theorem xor_zero{a b:Nat}(h:a ^^^b=0):a=b:=by have:=congrArg (· ^^^b) h;simpa [Nat.xor_assoc]using this
theorem crcS_zero{r:Nat}(h:r<4294967296)(e:j8 r=0):r=0:=by
 unfold j8 at e;have e:=xor_zero e;rw [Xt]at e
 split at e<;>omega
theorem crcN_zero{k r:Nat}(h:r<4294967296)(e:da k r=0):r=0:=by
 induction k generalizing r with
 |zero=>exact e|succ k a=>exact crcS_zero h (a (crcS_lt h) e)
def crcB(r b:Nat):Nat:=da 8 (r ^^^b)
def kB(r:Nat)(l:List UInt8):Nat:=l.foldl (fun r b=>crcB r b.toNat) r
def crc(l:List UInt8):Nat:=4294967295 ^^^kB 4294967295 l
theorem sK(b:UInt8):b.toNat<256:=b.toNat_lt
theorem crcB_lt{r:Nat}{b:UInt8}(h:r<4294967296):crcB r b.toNat<4294967296:=
 yp (Xy (n:=32) h (Nat.lt_trans (sK b) (by decide)))
theorem yt{l:List UInt8}{r:Nat}(h:r<4294967296):kB r l<4294967296:=by
 induction l generalizing r with
 |nil=>exact h|cons b l a=>exact a (crcB_lt h)
theorem tQ(l:List UInt8):crc l<4294967296:=Xy (n:=32) (by decide) (yt (by decide))
theorem B2(r:Nat)(l m:List UInt8):kB r (l++m)=kB (kB r l) m:=List.foldl_append
theorem Cg(r b:Nat):crcB r b=(((r ^^^b)>>>4) ^^^da 4 ((r ^^^b)%16))>>>4 ^^^da 4 ((((r ^^^b)>>>4) ^^^da 4 ((r ^^^b)%16))%16):=by unfold crcB;rw [show(8:Nat)=4+4 from rfl,vS,xw 4 (da 4 _),xw 4 (r ^^^b)]
theorem crcL_diff(l m:List UInt8)(e:Nat)(c:l.length=m.length)(g: ∀i (h:i<l.length),l[i].toNat ^^^(m[i]'(c▸h)).toNat=e/2 ^(8*i)%256)(r d:Nat)(f:e<2 ^(8*l.length)):
 kB r l ^^^kB d m=da (8*l.length) (r ^^^d ^^^e):=by
 induction l generalizing m e r d with
 | nil=>
   cases m with
   |cons _ _=>cases c
   | nil=>have:e=0:=(by simp at f;omega);subst this;simp [kB,da]
 | cons a l k=>
   cases m with
   |nil=>cases c
   | cons b m=>
     have j:=g 0 (by simp);simp only [XE,Nat.mul_zero,Nat.pow_zero,Nat.div_one]at j;have:=k m (e/256) (by simpa using c) (fun i h=>by
      have:=g (i+1) (by simpa using h);simp only [XV]at this;rw [this,XW,show 2 ^(8*(i+1))=256*2 ^(8*i) by rw [show 8*(i+1)=8+8*i by omega,Nat.pow_add]]) (crcB r a.toNat) (crcB d b.toNat) (by
      rw [Xl,show 8*(l.length+1)=8*l.length+8 by omega,Nat.pow_add]at f;exact(Nat.div_lt_iff_lt_mul (by decide)).2 f)
     show kB (crcB r a.toNat) l ^^^kB (crcB d b.toNat) m=_;rw [this,Xl,show 8*(l.length+1)=8*l.length+8 by omega,vS];congr 1;have n:=zo 8 e;have:da 8 (r ^^^d ^^^e)=da 8 (r ^^^a.toNat) ^^^da 8 (d ^^^b.toNat) ^^^(e/256):=by
      rw [<-vq]
      conv=>rhs;rw [<-vZ 8 (e/256),<-vq]
      congr 1
      conv=>lhs;rw [n]
      rw [show e%2 ^8=a.toNat ^^^b.toNat from j.symm,show(2:Nat) ^8=256 from rfl]
      ac_rfl
     exact this.symm
theorem crc_burst(l m:List UInt8)(e k:Nat)(a:l.length=m.length)(d: ∀i (h:i<l.length),l[i].toNat ^^^(m[i]'(a▸h)).toNat=(2 ^k*e)/2 ^(8*i)%256)(f:e≠0)(g:e<4294967296)(j:2 ^k*e<2 ^(8*l.length)):crc l≠crc m:=by
 intro c;have b:=crcL_diff l m _ a d 4294967295 4294967295 j;have n:kB 4294967295 l=kB 4294967295 m:=by unfold crc at c;have:=congrArg (4294967295 ^^^ ·) c;simpa [<-Nat.xor_assoc]using this
 rw [n,XQ,XQ,Nat.zero_xor]at b;have o:k<=8*l.length:=by
  rcases Nat.lt_or_ge (8*l.length) k with h|h
  . exfalso;have:2 ^(8*l.length)<=2 ^k:=Nat.pow_le_pow_right (by decide) (by omega);have:2 ^k*1<=2 ^k*e:=Nat.mul_le_mul_left _ (by omega);omega
  . exact h
 rw [show 8*l.length=(8*l.length-k)+k by omega,vS,vZ]at b;exact f (crcN_zero g b.symm)
end Go.Ab

end
section
namespace Go.Ab
abbrev Bs:=List UInt8
def aK:Nat->Nat->Bs
 |0,_=>[]|k+1,n=>UInt8.ofNat n::aK k (n/256)
def bC:Bs->Nat
 | []=>0|b::l=>b.toNat+256*bC l
theorem aF(k n:Nat):(aK k n).length=k:=by
 induction k generalizing n with
 |zero=>rfl|succ k a=>simp [aK,a]
theorem jX(l:Bs):bC l<256 ^l.length:=by
 induction l with
 |nil=>simp [bC]| cons b l a=>have:=sK b;simp only [bC,Xl,XH];omega
theorem getN_putN(k n:Nat):bC (aK k n)=n%256 ^k:=by
 induction k generalizing n with
 |zero=>simp [aK,bC,Nat.mod_one]| succ k a=>have e:(UInt8.ofNat n).toNat=n%256:=(by simp);rw [aK,bC,e,a,show 256 ^(k+1)=256*256 ^k by rw [XH,XR],Nat.mod_mul]
theorem fJ{k n:Nat}(h:n<256 ^k):bC (aK k n)=n:=by rw [getN_putN,XG h]
theorem Cn(l m:Bs):bC (l++m)=bC l+256 ^l.length*bC m:=by
 induction l with
 |nil=>simp [bC]| cons b l a=>simp only [List.cons_append,bC,a,Xl,XH];rw [Nat.mul_add,XR (256 ^l.length) 256,Nat.mul_assoc];omega
theorem putN_at{k n i:Nat}(h:i<k):(aK k n)[i]? =some (UInt8.ofNat (n/256 ^i)):=by
 induction k generalizing n i with
 |zero=>omega| succ k a=>
   cases i with
   |zero=>simp [aK]| succ i=>show(aK k (n/256))[i]? =_;rw [a (by omega),XW,show 256 ^(i+1)=256*256 ^i by rw [XH,XR]]
def eI:Bs:=[77,73,76,69,49,1]
abbrev Sec:=Nat×Bs
def kE(x:Sec):Bs:=aK 1 x.1++(aK 8 x.2.length++aK 4 (crc x.2))
def cu(l:List Sec):Bs:=eI++(aK 1 l.length++l.flatMap kE)
def cy(l:List Sec):Bs:=cu l++(aK 4 (crc (cu l))++l.flatMap Xe)
abbrev Ent:=Nat×Nat×Nat
def entD(s:Bs):Ent:=(bC (s.take 1),bC ((s.drop 1).take 8),bC ((s.drop 9).take 4))
def qJ:Nat->Bs->List Ent
 |0,_=>[]|k+1,s=>entD s::qJ k (s.drop 13)
def k9:List Ent->Bs->Option (List Sec)
 | [],_=>some []|(k,n,c)::a,s=>if crc (s.take n)=c then(k9 a (s.drop n)).map ((k,s.take n):: ·)else none
def aJ(s:Bs):Nat:=bC ((s.drop 6).take 1)
def iw(s:Bs):Prop:=s.take 6=eI/\7<=s.length/\aJ s<=16/\11+13*aJ s<=s.length/\bC ((s.drop (7+13*aJ s)).take 4)=crc (s.take (7+13*aJ s))/\
 ((qJ (aJ s) (s.drop 7)).map (·.2.1)).sum=s.length-(11+13*aJ s)
noncomputable instance (s:Bs):Decidable (iw s):=Classical.propDecidable _
noncomputable def kI(s:Bs):Except Bool (List Sec):=
 if iw s then match k9 (qJ (aJ s) (s.drop 7)) (s.drop (11+13*aJ s))with
  |some l=>.ok l|none=>.error true
 else .error false
theorem Aj(x:Sec):(kE x).length=13:=by simp [kE,aF]
theorem yW(l:List Sec):(l.flatMap kE).length=13*l.length:=by
 induction l with
 |nil=>rfl|cons x l a=>rw [Xg,zO,Aj,a,Xl];omega
theorem gP(l:List Sec):(cu l).length=7+13*l.length:=by simp only [cu,zO,aF,yW,eI,Xl,List.length_nil];omega
def pF(x:Sec):Prop:=x.1<256/\x.2.length<18446744073709551616
theorem entD_entB{x:Sec}(h:pF x)(r:Bs):entD (kE x++r)=(x.1,x.2.length,crc x.2):=by
 have c:=tQ x.2;have b:(kE x++r).take 1=aK 1 x.1:=by unfold kE;rw [Xo,List.take_append_of_le_length (by rw [aF];omega),Xz (by rw [aF];omega)]
 have a:(kE x++r).drop 1=aK 8 x.2.length++(aK 4 (crc x.2)++r):=by unfold kE;rw [Xo,Xo,Xa (aF 1 _)]
 have d:(kE x++r).drop 9=aK 4 (crc x.2)++r:=by rw [show(9:Nat)=1+8 from rfl,<-Xv,a,Xa (aF 8 _)]
 unfold entD;rw [b,a,d,Xd (aF 8 _),Xd (aF 4 _),fJ (by have:=h.1;omega),fJ (by have:=h.2;omega),fJ (by omega)]
theorem li{l:List Sec}(h: ∀x∈l,pF x)(r:Bs):qJ l.length (l.flatMap kE++r)=l.map fun x=>(x.1,x.2.length,crc x.2):=by
 induction l with
 |nil=>rfl| cons x l a=>
   rw [Xg,Xo,Xl,qJ,entD_entB (h x (by simp)),Xa (Aj x),a (fun y b=>h y (by simp [b])),XF]
theorem bodsD_all(l:List Sec):k9 (l.map fun x=>(x.1,x.2.length,crc x.2)) (l.flatMap Xe)=some l:=by
 induction l with
 |nil=>rfl| cons x l a=>rw [XF,Xg,k9,XX,List.drop_left,if_pos rfl,a];rfl
theorem te(l:List Sec):((l.map fun x=>(x.1,x.2.length,crc x.2)).map (·.2.1)).sum=(l.flatMap Xe).length:=by
 induction l with
 |nil=>rfl|cons x l a=>simp only [XF,List.sum_cons,Xg,zO]at a⊢;rw [a]
theorem oh(l:List Sec)(b:l.length<=16)(r:Bs):(cu l++r).take 6=eI/\aJ (cu l++r)=l.length/\(cu l++r).take (7+13*l.length)=cu l/\(cu l++r).drop (7+13*l.length)=r/\(cu l++r).drop 7=l.flatMap kE++r:=by
 have a:cu l++r=eI++(aK 1 l.length++(l.flatMap kE++r)):=by unfold cu;simp only [Xo]
 have e6:(cu l++r).drop 6=aK 1 l.length++(l.flatMap kE++r):=by rw [a];exact Xa rfl
 refine⟨by rw [a];exact Xd rfl,?_,Xd (gP l),Xa (gP l),?_⟩
 . unfold aJ;rw [e6,Xd (aF 1 _),fJ (by omega)]
 . rw [show(7:Nat)=6+1 from rfl,<-Xv,e6,Xa (aF 1 _)]
theorem tF{l:List Sec}(f:l.length<=16)(h: ∀x∈l,pF x):kI (cy l)=.ok l:=by
 have c:=tQ (cu l);unfold cy;obtain⟨g,b,i,d,e⟩:=oh l f (aK 4 (crc (cu l))++l.flatMap Xe);have j:(cu l++(aK 4 (crc (cu l))++l.flatMap Xe)).drop (11+13*l.length)=l.flatMap Xe:=by rw [show 11+13*l.length=7+13*l.length+4 by omega,<-Xv,d,Xa (aF 4 _)]
 have a:(cu l++(aK 4 (crc (cu l))++l.flatMap Xe)).length=11+13*l.length+(l.flatMap Xe).length:=by rw [zO,zO,gP,aF];omega
 have k:iw (cu l++(aK 4 (crc (cu l))++l.flatMap Xe)):=by
  refine⟨g,by omega,by omega,by omega,?_,?_⟩
  . rw [b,i,d,Xd (aF 4 _),fJ (by omega)]
  . rw [b,e,li h,te,a];omega
 unfold kI;rw [if_pos k,b,e,j,li h,bodsD_all]
theorem zF{l:List Sec}(b:l.length<=16)(h: ∀x∈l,pF x){r:Bs}(f:r.length≠4+(l.flatMap Xe).length): ¬iw (cu l++r):=by rintro⟨_,_,_,c,_,d⟩;obtain⟨_,a,_,_,e⟩:=oh l b r;rw [a,e,li h,te,zO,gP]at d;rw [a,zO,gP]at c;omega
theorem nP(l:List Sec):(cy l).length=11+13*l.length+(l.flatMap Xe).length:=by unfold cy;rw [zO,zO,gP,aF];omega
theorem decF_more{l:List Sec}(a:l.length<=16)(h: ∀x∈l,pF x){x:Bs}(b:x≠ []):kI (cy l++x)=.error false:=by have:=List.length_pos_iff.2 b;unfold kI cy;rw [Xo,if_neg (zF a h (by simp only [zO,aF];omega))]
theorem decF_cut{l:List Sec}(a:l.length<=16)(h: ∀x∈l,pF x){c:Nat}(d:c<(cy l).length):kI ((cy l).take c)=.error false:=by
 unfold kI;rw [if_neg];rw [nP]at d;rcases Nat.lt_or_ge c (7+13*l.length)with b|b
 . rintro⟨_,f,_,g,_⟩;have i:((cy l).take c).length=c:=(by rw [List.length_take,nP];omega);rw [i]at f g;have:aJ ((cy l).take c)=l.length:=(by have:=(oh l a (aK 4 (crc (cu l))++l.flatMap Xe)).2.1;rw [<-this];unfold aJ;rw [List.drop_take,List.take_take,show min 1 (c-6)=1 by omega];rfl);omega
 . have e:(cy l).take c=cu l++(aK 4 (crc (cu l))++l.flatMap Xe).take (c-(7+13*l.length)):=(by unfold cy;rw [List.take_append,Xz (by rw [gP];exact b),gP]);rw [e];exact zF a h (by simp only [List.length_take,zO,aF];omega)
theorem bodsD_bad{l l':List Sec}{k:Nat}(d:k<l.length)(b:k<l'.length)(a:l'[k].2.length=l[k].2.length)(c:crc l'[k].2≠crc l[k].2)(f: ∀i,i<k->l'[i]? =l[i]?):
 k9 (l.map fun x=>(x.1,x.2.length,crc x.2)) (l'.flatMap Xe)=none:=by
 induction l generalizing l' k with
 |nil=>simp at d| cons x l g=>
   cases l' with
   |nil=>simp at b| cons y l'=>
     rw [XF,Xg,k9];cases k with
     | zero=>simp only [XE]at a c;rw [<-a,XX,if_neg c]| succ k=>
       have e:y=x:=(by simpa using f 0 (by omega));subst e;rw [XX,List.drop_left,if_pos rfl,g (k:=k) (by simpa using d) (by simpa using b) (by simpa using a) (by simpa using c) (fun i h=>by simpa using f (i+1) (by omega))];rfl
theorem decF_bad{l:List Sec}(m:l.length<=16)(h: ∀x∈l,pF x){k:Nat}(d:k<l.length){b:Bs}(a:b.length=l[k].2.length)(n:crc b≠crc l[k].2):
 kI (cu l++(aK 4 (crc (cu l))++(l.set k (l[k].1,b)).flatMap Xe))=.error true:=by
 have c:=tQ (cu l);obtain⟨o,e,p,f,g⟩:=oh l m (aK 4 (crc (cu l))++(l.set k (l[k].1,b)).flatMap Xe);have q:(cu l++(aK 4 (crc (cu l))++(l.set k (l[k].1,b)).flatMap Xe)).drop (11+13*l.length)=(l.set k (l[k].1,b)).flatMap Xe:=by rw [show 11+13*l.length=7+13*l.length+4 by omega,<-Xv,f,Xa (aF 4 _)]
 have r:((l.set k (l[k].1,b)).flatMap Xe).length=(l.flatMap Xe).length:=by
  clear o e p f g q c h m n
  induction l generalizing k with
  |nil=>simp at d| cons x l s=>
    cases k with
    |zero=>simp only [List.set_cons_zero,Xg,zO,XE]at a⊢;omega| succ k=>simp only [List.set_cons_succ,Xg,zO,XV]at a⊢;rw [s (by simpa using d) a]
 have t:iw (cu l++(aK 4 (crc (cu l))++(l.set k (l[k].1,b)).flatMap Xe)):=by
  have j:(cu l++(aK 4 (crc (cu l))++(l.set k (l[k].1,b)).flatMap Xe)).length=11+13*l.length+(l.flatMap Xe).length:=by rw [zO,zO,gP,aF,r];omega
  refine⟨o,by omega,by omega,by omega,?_,?_⟩
  . rw [e,p,f,Xd (aF 4 _),fJ (by omega)]
  . rw [e,g,li h,te,j];omega
 unfold kI;rw [if_pos t,e,g,q,li h,bodsD_bad d (by simpa using d) (by simpa using a) (by simpa using n) (fun i u=>by rw [List.getElem?_set_ne (by omega)])]
end Go.Ab

end
section
namespace Go.Ab
def u64(x:Int):Nat:=(x%18446744073709551616).toNat
def i64(n:Nat):Int:=if n<9223372036854775808 then n else n-18446744073709551616
theorem i64_u64{x:Int}(h: -9223372036854775808<=x/\x<=9223372036854775807):i64 (u64 x)=x:=by unfold i64 u64;omega
theorem u64_lt(x:Int):u64 x<256 ^8:=by unfold u64;omega
def put8(x:Int):Bs:=aK 8 (u64 x)
def mi(s:Bs):Int:=i64 (bC s)
theorem nu(x:Int):(put8 x).length=8:=aF 8 _
theorem ui{x:Int}(h: -9223372036854775808<=x/\x<=9223372036854775807):mi (put8 x)=x:=by unfold mi put8;rw [fJ (u64_lt x),i64_u64 h]
def eo{a:Type}(f:Bs->a)(w:Nat):Nat->Bs->List a
 |0,_=>[]|k+1,s=>f (s.take w)::eo f w k (s.drop w)
theorem zh{a:Type}(f:Bs->a)(w k:Nat)(s:Bs):(eo f w k s).length=k:=by
 induction k generalizing s with
 |zero=>rfl|succ k b=>simp [eo,b]
theorem numsD_at{a:Type}(f:Bs->a)(w:Nat){k i:Nat}(s:Bs)(h:i<k):(eo f w k s)[i]? =some (f ((s.drop (w*i)).take w)):=by
 induction k generalizing s i with
 |zero=>omega| succ k b=>
   cases i with
   |zero=>simp [eo]| succ i=>show(eo f w k (s.drop w))[i]? =_;rw [b _ (by omega),Xv,show w+w*i=w*(i+1) by rw [Nat.mul_succ];omega]
theorem qX{a:Type}{f:Bs->a}{p:a->Bs}{w:Nat}(b: ∀x,(p x).length=w)(l:List a)(h: ∀x∈l,f (p x)=x)(r:Bs):eo f w l.length (l.flatMap p++r)=l:=by
 induction l with
 |nil=>rfl| cons x l c=>
   rw [Xg,Xo,Xl,eo,Xd (b x),Xa (b x),h x (by simp),c (fun y d=>h y (by simp [d]))]
theorem dO{a:Type}{p:a->Bs}{w:Nat}(b: ∀x,(p x).length=w)(l:List a):(l.flatMap p).length=w*l.length:=by
 induction l with
 |nil=>rfl|cons x l c=>rw [Xg,zO,b,c,Xl,Nat.mul_succ];omega
def xyB(p:Int×Int):Bs:=put8 p.1++put8 p.2
def xyG(s:Bs):Int×Int:=(mi (s.take 8),mi ((s.drop 8).take 8))
def jD(a:Arc):Bs:=aK 4 a.s++(aK 4 a.t++aK 4 a.w)
def arcG(s:Bs):Arc:=⟨bC (s.take 4),bC ((s.drop 4).take 4),bC ((s.drop 8).take 4)⟩
theorem qf(p:Int×Int):(xyB p).length=16:=by simp [xyB,nu]
theorem sg(a:Arc):(jD a).length=12:=by simp [jD,aF]
def I64(x:Int):Prop:= -9223372036854775808<=x/\x<=9223372036854775807
theorem xyG_xyB{p:Int×Int}(b:I64 p.1)(c:I64 p.2):xyG (xyB p)=p:=by have a:=nu p.1;have d:=nu p.2;unfold xyG xyB;rw [Xd a,Xa a,Xz (by omega),ui b,ui c]
theorem arcG_arcB{a:Arc}(c:a.s<4294967296)(d:a.t<4294967296)(e:a.w<4294967296):arcG (jD a)=a:=by
 have f:(jD a).take 4=aK 4 a.s:=by unfold jD;exact Xd (aF 4 _)
 have b:(jD a).drop 4=aK 4 a.t++aK 4 a.w:=by unfold jD;exact Xa (aF 4 _)
 have g:(jD a).drop 8=aK 4 a.w:=by rw [show(8:Nat)=4+4 from rfl,<-Xv,b];exact Xa (aF 4 _)
 unfold arcG;rw [f,b,g,Xd (aF 4 _),Xz (by rw [aF];omega),fJ c,fJ d,fJ e]
def fo(a:Gra):Bs:=aK 4 a.nodes++(aK 4 a.arcs.length++((a.X.zip a.Y).flatMap xyB++a.arcs.flatMap jD))
def jL(s:Bs):Nat:=bC (s.take 4)
def rW(s:Bs):Nat:=bC ((s.drop 4).take 4)
def graG(s:Bs):Gra:=⟨jL s,(eo xyG 16 (jL s) (s.drop 8)).map Prod.fst,(eo xyG 16 (jL s) (s.drop 8)).map Xe,eo arcG 12 (rW s) (s.drop (8+16*jL s))⟩
structure RightG(γ:Gra):Prop where
 n1:1<=γ.nodes
 cX: ∀x∈γ.X,-2147483648<=x/\x<=2147483647
 cY: ∀x∈γ.Y,-2147483648<=x/\x<=2147483647
 arcs: ∀a∈γ.arcs,a.s<γ.nodes/\a.t<γ.nodes/\a.w<=2147483647
structure BodyG(s:Bs):Prop where
 l8:8<=s.length
 n2:jL s<=16777216
 m2:rW s<=67108864
 len:s.length=8+16*jL s+12*rW s
theorem graG_graB{b:Gra}(n:b.X.length=b.nodes)(o:b.Y.length=b.nodes)(h:RightG b)(q:b.nodes<=16777216)(r:b.arcs.length<=67108864):BodyG (fo b)/\graG (fo b)=b:=by
 have c:(b.X.zip b.Y).length=b.nodes:=by rw [List.length_zip];omega
 have i:(fo b).take 4=aK 4 b.nodes:=by unfold fo;exact Xd (aF 4 _)
 have e:(fo b).drop 4=aK 4 b.arcs.length++((b.X.zip b.Y).flatMap xyB++b.arcs.flatMap jD):=by unfold fo;exact Xa (aF 4 _)
 have f:(fo b).drop 8=(b.X.zip b.Y).flatMap xyB++b.arcs.flatMap jD:=by rw [show(8:Nat)=4+4 from rfl,<-Xv,e];exact Xa (aF 4 _)
 have j:jL (fo b)=b.nodes:=by unfold jL;rw [i,fJ (by omega)]
 have k:rW (fo b)=b.arcs.length:=by unfold rW;rw [e,Xd (aF 4 _),fJ (by omega)]
 have el:(fo b).length=8+16*b.nodes+12*b.arcs.length:=by simp only [fo,zO,aF,dO qf,dO sg,c];omega
 have l:(fo b).drop (8+16*b.nodes)=b.arcs.flatMap jD:=by rw [<-Xv,f];exact Xa (by rw [dO qf,c])
 refine⟨⟨by omega,by omega,by omega,by omega⟩,?_⟩;have m:eo xyG 16 b.nodes ((b.X.zip b.Y).flatMap xyB++b.arcs.flatMap jD)=b.X.zip b.Y:=by have:=qX qf (b.X.zip b.Y) (fun p g=>xyG_xyB (by have:=h.cX p.1 (List.of_mem_zip g).1;unfold I64;omega) (by have:=h.cY p.2 (List.of_mem_zip g).2;unfold I64;omega)) (b.arcs.flatMap jD);rw [c]at this;exact this
 have d:eo arcG 12 b.arcs.length (b.arcs.flatMap jD)=b.arcs:=by
  have:=qX sg b.arcs (fun a d=>by
   have:=h.arcs a d;have:=h.n1;exact arcG_arcB (by omega) (by omega) (by omega)) []
  rw [List.append_nil]at this;exact this
 unfold graG;rw [j,k,f,l,m,d,List.map_fst_zip (by omega),List.map_snd_zip (by omega)]
end Go.Ab

end
section
namespace Go.Ab
theorem hf_u{k:IntKind}(h:sgn k=false):hf k=pw k:=by cases k<;>first|rfl|cases h
theorem wrapN{k:IntKind}(h:sgn k=false)(n:Nat):ag k (n:Int)=((n%pw k:Nat):Int):=by
 show ag k (.ofNat n)=_;simp only [ag,hf_u h,h];cases a:XY n (pw k)with
 |true=>rw [XP]at a;rw [cond_true,XG a];rfl|false=>rfl
theorem cD{k:IntKind}(h:sgn k=false){n:Nat}(a:n<pw k):ag k (n:Int)=(n:Int):=by rw [wrapN h,XG a]
section
variable{E:Env}{t:TypeId}{p q:Operand}{x y:Nat}{k k':IntKind}
theorem bitsU(op:BinOp)(a:x<pw k)(b:y<pw k):iH op k (x:Int) (y:Int)=match op with
 | .and=>some (ag k ((x&&& y:Nat):Int))| .or=>some (ag k ((x|||y:Nat):Int))
 | .xor=>some (ag k ((x ^^^y:Nat):Int))| .andNot=>some (ag k ((x ^^^(x&&& y):Nat):Int))|_=>none:=by
 show iH op k (.ofNat x) (.ofNat y)=_;have c:XY x (pw k)=true:=by rw [XP];exact a
 have d:XY y (pw k)=true:=by rw [XP];exact b
 unfold iH;simp only [c,d,Bool.and_self,cond_true];cases op<;>rfl
theorem pw_two(k:IntKind):pw k=2 ^bitsOf k:=by cases k<;>rfl
theorem s8(h:sgn k=false)(a:x<pw k)(b:y<pw k):aZ E .and t p q (.int k (x:Int)) (.int k (y:Int))=some (.int k ((x&&& y:Nat):Int)):=by show(bif i6 k k then(iH .and k (x:Int) (y:Int)).map (Value.int k ·)else none)=_;rw [bitsU .and a b,eE];simp only [cD h (Nat.lt_of_le_of_lt Nat.and_le_left a)];rfl
theorem b_orN(h:sgn k=false)(a:x<pw k)(b:y<pw k):aZ E .or t p q (.int k (x:Int)) (.int k (y:Int))=some (.int k ((x|||y:Nat):Int)):=by
 show(bif i6 k k then(iH .or k (x:Int) (y:Int)).map (Value.int k ·)else none)=_;have:x|||y<pw k:=by rw [pw_two]at a b⊢;exact Nat.or_lt_two_pow a b
 rw [bitsU .or a b,eE];simp only [cD h this];rfl
theorem tU(h:sgn k=false)(a:x<pw k)(b:y<pw k):aZ E .xor t p q (.int k (x:Int)) (.int k (y:Int))=some (.int k ((x ^^^y:Nat):Int)):=by
 show(bif i6 k k then(iH .xor k (x:Int) (y:Int)).map (Value.int k ·)else none)=_;have:x ^^^y<pw k:=by rw [pw_two]at a b⊢;exact Xy a b
 rw [bitsU .xor a b,eE];simp only [cD h this];rfl
theorem s9(a:y<=bitsOf k):aZ E .shr t p q (.int k (x:Int)) (.int k' (y:Int))=some (.int k ((x>>>y:Nat):Int)):=by show(mL .shr k (.ofNat x) (.ofNat y)).map (Value.int k ·)=_;simp only [mL,fm,XA a,cond_true,shrI,XI];rw [Xt];rfl
theorem wE(h:sgn k=false)(a:y<=bitsOf k):aZ E .shl t p q (.int k (x:Int)) (.int k' (y:Int))=some (.int k ((x*2 ^y%pw k:Nat):Int)):=by show(mL .shl k (x:Int) (.ofNat y)).map (Value.int k ·)=_;simp only [mL,fm,XA a,cond_true,XI];rw [show(x:Int)*Int.ofNat (Nat.pow 2 y)=((x*2 ^y:Nat):Int) by rw [Int.natCast_mul];rfl,wrapN h]
theorem u_xorU(h:sgn k=false)(a:x<pw k):unP .xor (.int k (x:Int))=some (.int k (((pw k-1) ^^^x:Nat):Int)):=by
 have c:0<pw k:=by cases k<;>decide
 have:(pw k-1) ^^^x<pw k:=by
  have b:pw k-1<pw k:=by omega
  rw [pw_two]at a b⊢;exact Xy b a
 simp only [unP,h,cond_false];rw [show(Int.ofNat (pw k-1))=((pw k-1:Nat):Int)from rfl,bitsU .xor (by omega) a];simp only [cD h this];rfl
end
def sv(l:Bs):Value:=.string (gk l)
theorem fH(l:Bs):aD (gk l)=l:=rfl
theorem lU(l:Bs):(gk l).size=l.length:=rfl
theorem pQ{l:Bs}:Fl (sv l):=fl_str
def aQ(l:Bs):List Value:=l.map fun b=>.int .u8 (b.toNat:Int)
theorem dM(l:Bs):(aQ l).length=l.length:=by simp [aQ]
theorem lH(l m:Bs):aQ (l++m)=aQ l++aQ m:=by simp [aQ]
theorem oX(l:Bs):(aQ l).all iQ=true:=by simp [aQ,iQ]
theorem Bm(l:Bs):bytesOf (aQ l)=some l:=by
 induction l with
 |nil=>rfl| cons b l a=>
   show(match bytesOf (aQ l)with|none=>none|some r=>some (UInt8.ofNat b.toNat::r))=_;rw [a];simp only [UInt8.ofNat_toNat]
section
variable{E:Env}{t e:TypeId}{p q:Operand}{h:Hp}{l m:Bs}
theorem dK:nS (some .string) h (sv l)=some (.val (.int .i64 (l.length:Int)),h):=rfl
theorem u5(l m:Bs):fi l m=decide (l=m):=by
 induction l generalizing m with
 |nil=>cases m<;>simp [fi]
 | cons a l c=>
   cases m with
   |nil=>simp [fi]|cons b m=>simp only [fi,c,List.cons.injEq];by_cases h:a=b<;>simp [h,UInt8.toNat_inj]
theorem A2(a:l.length+m.length<=1099511627776):aZ E .add t p q (sv l) (sv m)=some (sv (l++m)):=by simp only [sv,aZ,lU,XA a,cond_true,fH]
theorem b_eql_sv:aZ E .eql t p q (sv l) (sv m)=some (.bool (decide (l=m))):=by simp only [sv,aZ,fH,u5]
theorem BC:aZ E .neq t p q (sv l) (sv m)=some (.bool (!decide (l=m))):=by simp only [sv,aZ,fH,u5]
theorem nR{k:IntKind}{i n:Nat}(h:i<n):iX (.int k (i:Int)) n=some i:=eU h
theorem qr(b:E.und t=some .string){k:IntKind}{i:Nat}(a:i<l.length):kQ E t (sv l) (.int k (i:Int))=some (.int .u8 (l[i].toNat:Int)):=by simp only [sv,kQ,b,lU,eU a,fH,Xw a];rfl
theorem qQ{k:IntKind}{n y:Nat}(a:n<=y):dR (.int k (n:Int)) y=some n:=by show(match fm (.ofNat n)with|some n=>bif Nat.ble n y then some n else none|none=>none)=_;simp only [fm,XA a,cond_true]
theorem slice_sv(c:E.und t=some .string){k k':IntKind}{a b:Nat}(d:a<=b)(f:b<=l.length):cK E t (sv l) (some (.int k (a:Int))) (some (.int k' (b:Int))) none=some (sv ((l.take b).drop a)):=by simp only [sv,cK,c,X4,cond_false,dp,lU,qQ f,qQ d,fH];rw [<-List.drop_take]
theorem rj(a:E.und t=some .string){k:IntKind}{b:Nat}(c:b<=l.length):cK E t (sv l) none (some (.int k (b:Int))) none=some (sv (l.take b)):=by simp only [sv,cK,a,X4,cond_false,dp,lU,qQ c,fH,XM,Nat.sub_zero]
theorem src_sv:aC h 1 (sv l)=some (l.length,aQ l):=rfl
def BySl(h:Hp)(v:Value)(l:Bs):Prop:=ay h 1 (fun(b:UInt8)=>[Value.int .u8 (b.toNat:Int)]) v l
theorem byF(l:Bs):l.flatMap (fun(b:UInt8)=>[Value.int .u8 (b.toNat:Int)])=aQ l:=by
 induction l with
 |nil=>rfl|cons b l a=>rw [Xg,a];rfl
theorem vP{v:Value}(s:BySl h v l):strOf h v=some (sv l):=by
 rcases s with⟨rfl,rfl⟩|⟨b,o,s,c,rfl,d,a⟩
 . rfl
 . rw [Xn,byF]at a;simp only [strOf,a,Bm];rfl
end
theorem qH{E:Env}{t e:TypeId}{n b many:Nat}{k:IntKind}(a:E.und t=some (.array n e))(c:E.sz e=some 1)(h:many<=n):cK E t (.pointer (some ⟨b,0,none⟩)) none (some (.int k (many:Int))) none=some (.slice (some ⟨b,0,none⟩) many n):=by simp only [cK,a,c,dp,qQ h,Nat.sub_zero,Xi,Nat.add_zero];cases Nat.beq n 0<;>rfl
theorem pj{E:Env}{t:TypeId}{p q:Operand}{k k':IntKind}{x:Nat}(h:8<=bitsOf k):aZ E .shr t p q (.int k (x:Int)) (.int k' 8)=some (.int k ((x>>>8:Nat):Int)):=s9 (y:=8) h
theorem b_shr4{E:Env}{t:TypeId}{p q:Operand}{k k':IntKind}{x:Nat}(h:4<=bitsOf k):aZ E .shr t p q (.int k (x:Int)) (.int k' 4)=some (.int k ((x>>>4:Nat):Int)):=s9 (y:=4) h
def lM(n i:Nat):List Value:=(Xk 8).map fun j=>.int .u8 ((if j<i then n/256 ^j%256 else 0:Nat):Int)
theorem kw(n i:Nat):(lM n i).length=8:=by simp [lM]
theorem sG{n i:Nat}:(lM n i).set i (.int .u8 ((n/256 ^i%256:Nat):Int))=lM n (i+1):=by
 unfold lM;have:=kD (N:=8) (k:=i) (F:=fun j=>Value.int .u8 ((if j<i then n/256 ^j%256 else 0:Nat):Int)) (F':=fun j=>Value.int .u8 ((if j<i+1 then n/256 ^j%256 else 0:Nat):Int)) (fun j _ a=>by
  by_cases h:j<i
  . rw [if_pos h,if_pos (by omega)]
  . rw [if_neg h,if_neg (by omega)])
 rw [<-this,if_pos (by omega)]
theorem q9{n many:Nat}(h:many<=8):(lM n 8).take many=aQ (aK many n):=by
 refine XO fun j=>?_;unfold lM aQ;rw [List.getElem?_take,Xp,Xp];by_cases a:j<many
 . rw [if_pos a,List.getElem?_range (by omega),putN_at a,XI,XI,if_pos (by omega)];simp
 . rw [if_neg a,List.getElem?_eq_none (l:=aK many n) (by rw [aF];omega)];rfl
theorem set_self{a:Type}{l:List a}{i:Nat}{x:a}(h:l[i]? =some x):l.set i x=l:=by
 refine XO fun j=>?_;rw [List.getElem?_set]
 split
 . rename_i e;subst e;have:=(List.getElem?_eq_some_iff.1 h).1;rw [if_pos this,h]
 . rfl
theorem dL{a:Type}{l:List a}{i:Nat}{x y:a}(h:l[i]? =some y):(l.set i x)[i]? =some x:=by rw [List.getElem?_set,if_pos rfl,if_pos (List.getElem?_eq_some_iff.1 h).1]
theorem set_set{a:Type}{l:List a}{i:Nat}{x y:a}:(l.set i x).set i y=l.set i y:=List.set_set ..
theorem wrap_u64(x:Int):ag .u64 x=(u64 x:Int):=by
 cases x with
 |ofNat m=>exact(wrapN rfl m).trans (by unfold u64;rw [show Int.ofNat m=(m:Int)from rfl];simp only [pw];omega)|negSucc m=>show((pw .u64-1-m%pw .u64:Nat):Int)=_;unfold u64;simp only [pw];omega
theorem wrap_i64{n:Nat}(h:n<18446744073709551616):ag .i64 (n:Int)=i64 n:=by
 show ag .i64 (.ofNat n)=_;unfold i64;simp only [ag,hf,pw,sgn,cond_true,XG h];by_cases a:n<9223372036854775808
 . have:XY n 9223372036854775808=true:=(by rw [XP];exact a);rw [this,if_pos a];rfl
 . have:XY n 9223372036854775808=false:=by
    cases b:XY n 9223372036854775808 with
    |false=>rfl|true=>rw [XP]at b;omega
   rw [this,if_neg a];simp only [cond_false];omega
end Go.Ab

end
section
namespace Go.Ab
open Go.Proofs
set_option maxRecDepth 10000
theorem values{a:Hp}(e:a.t.Sized a.n){v:Value}(f:Fl v):Ret zB 212 [v] a fun r d=>Gr a d/\ ∃b,r=.func (.func 233) #[] #[ptrTo b]/\a.n<=b/\d.load b 0 1=some [v]:=by have S:=Si e;refine aa (n:=4) (rs:=[.tmp 2]) rfl Tryz.e212 rfl rfl rfl (lbt rfl) ?_;simp only [BZ,seval];refine ac (di (by assumption)) S ?_;clear S;intro h b S c;simp only [BZ,ab,seval];exact⟨S.gr,b,rfl,c,S.ld m0 rfl⟩
theorem uZ{g:Hp}(d:g.t.Sized g.n){v:Value}{b:Nat}{ps:List Pl}(z:g.load b 0 1=some [v])(r:ay g 6 j7 v ps)(t:ps.length<1000):
 Iter zB 233 [] [ptrTo b] g (fun c=>c=b\/ar v c) (ps.map fun p=>[.agg ⟨j7 p⟩]):=by
 refine uF fun A J Z Y h F s l=>?_;refine enter (n:=16) (rs:=[]) rfl Tryz.e233 rfl rfl rfl (lbt rfl) ?_;have m:=s.load d z (.inl rfl);have f:=s.sl d r (fun b h=>.inr h);simp only [BZ,m,f.lenq,seval];refine az (fun(i:Nat) j h=>i<=ps.length/\ ∃F,ItS g (fun c=>c=b\/ar v c) h F/\J i h F/\j 0=.func (.yield A) #[] #[]/\j 5=v/\j 6=.int .i64 ps.length/\j 7=.int .i64 i) (fun i=>ps.length-i) ?_ 0 _ _ ?_
 . intro i B j h ⟨hi,F,s,l,r0,r5,r6,r7⟩;by_cases hlt:i<ps.length
   . have f:=s.sl d r (fun b h=>.inr h);obtain⟨c,o,k,q⟩:=f.ix (kd:=.i64) encP_len hlt;have S:=Si s.ok;have w:ag .i64 ((i:Int)+1)=((i+1:Nat):Int):=(by rw [wrap64]<;>omega);simp only [BZ,r5,r6,r7,an,hlt,k,q,seval];refine ac au S ?_;clear S;intro h C S u;simp only [BZ,j7,seval];refine aw (S.store (i:=0) rfl ?_ ?_ rfl rfl ?_ ono) ?_
     . exact(by exact Tryz.t259.2.1)
     . exact(by intro x e;cases e)
     . exact lbt rfl
     clear S;rintro h ⟨S,D⟩;clear D;simp only [LC,ae,lay,Xb,Xc,seval]at S;simp only [BZ,r0,S.lds (b:=C) (o:=0) (n:=6) m0 (lbt rfl),seval];refine gz Y (s.gr S.gr) (Y.gr _ _ _ _ l S.gr) (i:=i) (by simp [hlt,j7]) ?_ ?_ ?_
     . intro y E a G _ _;simp only [BZ,r7,w,seval];exact B (i+1) _ _ (by omega) ⟨by omega,E,G,a,by simp [am,r0,r5,r6]⟩
     . intro y a _;simp only [BZ,seval];exact iL rfl ⟨rfl,.inr (.inl ⟨_,rfl,a⟩)⟩
     . intro v y a;simp only [BZ];exact dB (cP ⟨rfl,.inr (.inr ⟨_,rfl,a⟩)⟩)
   . simp only [BZ,r6,r7,an,hlt,seval];have:i=ps.length:=(by omega);subst this;exact dl (cP ⟨rfl,_,rfl,rfl,.inl ⟨_,F,rfl,by simpa using l⟩⟩)
 . exact⟨by omega,F,s,l,by simp [am,dy]⟩
def oJ(f g:Nat)(v:Value)(h:Hp):Prop:= ∃d a b,∃(e:List Pl) (D:Nat->Prop),v=.func (.func d) a b/\Iter zB d a.toList b.toList h D (e.map fun p=>[.agg ⟨j7 p⟩])/\(∀p∈e,p.lo<=p.n/\p.n<p.hi)/\ ∀c,D c->c<f\/g<=c
theorem one_ok{a:Hp}(m:a.t.Sized a.n){c n d f:Int}(r:d<=n)(s:n<f):
 Ret zB 175 [.int .i64 c,.int .i64 n,.int .i64 d,.int .i64 f] a fun v k=>Gr a k/\oJ 0 a.n v k:=by
 have S:=Si m;refine aa (n:=16) (rs:=[.tmp 8]) rfl Tryz.e175 rfl rfl rfl (lbt rfl) ?_;simp only [BZ,seval];refine ac (bg (by exact Tryz.t305.1) (by exact Tryz.e259E) (by decide) (by rfl)) S ?_;clear S;intro h b S i;simp only [LC,aU,bD,ae,Xi,Xh,Xn,Xr,seval]at S;simp only [BZ,seval];have q:=S.fr.n;refine step_ret (values S.ok ce) ?_;intro v h ⟨g,b2,e,n2,l2⟩;replace S:=S.call g;clear g;subst e;simp only [BZ,ab,seval];have t:ay h 6 j7 (.slice (some ⟨b,0,none⟩) 1 1) [⟨0,0,c,n,d,f⟩]:=.inr ⟨b,0,none,1,rfl,X5 _,S.lds (b:=b) (o:=0) (n:=1*6) m0 (lbt rfl)⟩;exact⟨S.gr,_,#[],#[ptrTo b2],_,_,rfl,uZ S.ok l2 t (by simp),by intro p l;simp at l;subst l;exact⟨r,s⟩,fun c j=>by rcases j with rfl|j;exact .inr (by omega);cases j;exact .inr i⟩
theorem shapes_ok{f:Hp}(y:f.t.Sized f.n){a:Gra}(d:fI a){l m r:Value}(s:dh f l m r a):
 Ret zB 177 [i7 a l m r] f fun v t=>Gr f t/\oJ 0 f.n v t:=by
 have S:=Si y;have B:=d.n1;have C:=d.n2;have w:ag .i64 ((a.nodes:Int)+1)=((a.nodes+1:Nat):Int):=by rw [wrap64]<;>omega
 refine aa (n:=22) (rs:=[.tmp 2]) rfl Tryz.e177 rfl rfl rfl (lbt rfl) ?_;simp only [BZ,i7,seval];refine ac (bR (by intro x e;cases e)) S ?_;clear S;intro h b S z;simp only [ae]at S;simp only [BZ,s.X.lenq,s.Y.lenq,w,S.ld (b:=b) (o:=0) m0 rfl,S.ld (b:=b) (o:=1) m0 rfl,S.ld (b:=b) (o:=2) m0 rfl,seval];refine ac (bg (by exact Tryz.t305.1) (by exact Tryz.e259E) (by decide) (by rfl)) S ?_;clear S;intro h j S i;simp only [LC,aU,bD,ae,Xi,Xh,Xn,Xr,seval]at S;simp only [BZ,seval];have q:=S.fr.n;refine step_ret (values S.ok ce) ?_;intro v h ⟨g,b2,e,n2',l2⟩;replace S:=S.call g;clear g;subst e;simp only [BZ,ab,seval];have A:ay h 6 j7 (.slice (some ⟨j,0,none⟩) 2 2) [⟨0,0,6,a.X.length,a.nodes,(a.nodes+1:Nat)⟩,⟨0,1,6,a.Y.length,a.nodes,(a.nodes+1:Nat)⟩]:=.inr ⟨j,0,none,2,rfl,X5 _,S.lds (b:=j) (o:=0) (n:=2*6) m0 (lbt rfl)⟩;refine⟨S.gr,_,#[],#[ptrTo b2],_,_,rfl,uZ S.ok l2 A (by simp),?_,fun c k=>by rcases k with rfl|k;exact .inr (by omega);cases k;exact .inr i⟩;intro p u;have:=d.lX;have:=d.lY;simp at u;rcases u with rfl|rfl<;>(simp only [];omega)
theorem nodes_ok{a:Hp}(k:a.t.Sized a.n){d f g i:Value}:Ret zB 179 [.agg ⟨[i,d,f,g]⟩] a fun v j=>Gr a j/\ ∃b,v=.func (.func 213) #[] #[ptrTo b]/\a.n<=b/\Row j b [i,d,f,g] 1:=by have S:=Si k;refine aa (n:=4) (rs:=[.tmp 2]) rfl Tryz.e179 rfl rfl rfl (lbt rfl) ?_;simp only [BZ,seval];refine ac (bR (by intro x e;cases e)) S ?_;clear S;intro h b S c;simp only [ae]at S;simp only [BZ,ab,seval];exact⟨S.gr,b,rfl,c,S.row m0⟩
theorem arcs_ok{a:Hp}(k:a.t.Sized a.n){d f g i:Value}:Ret zB 182 [.agg ⟨[i,d,f,g]⟩] a fun v j=>Gr a j/\ ∃b,v=.func (.func 214) #[] #[ptrTo b]/\a.n<=b/\Row j b [i,d,f,g] 1:=by have S:=Si k;refine aa (n:=4) (rs:=[.tmp 2]) rfl Tryz.e182 rfl rfl rfl (lbt rfl) ?_;simp only [BZ,seval];refine ac (bR (by intro x e;cases e)) S ?_;clear S;intro h b S c;simp only [ae]at S;simp only [BZ,ab,seval];exact⟨S.gr,b,rfl,c,S.row m0⟩
def plN(X Y:List Int):List Pl:=(Xk X.length).flatMap fun(i:Nat)=>[⟨i,0,7,X.getD i 0,-2147483648,2147483648⟩,⟨i,1,7,Y.getD i 0,-2147483648,2147483648⟩]
theorem plN_len(X Y:List Int):(plN X Y).length=2*X.length:=by unfold plN;rw [XC];simp [XJ];omega
theorem plN_at(X Y:List Int){i:Nat}(c:i<X.length):(plN X Y)[2*i]? =some ⟨i,0,7,X.getD i 0,-2147483648,2147483648⟩/\(plN X Y)[2*i+1]? =some ⟨i,1,7,Y.getD i 0,-2147483648,2147483648⟩:=by
 unfold plN;have b: ∀(n j:Nat) (f:Nat->Pl) (k:Nat->Pl),j<n->((Xk n).flatMap fun i=>[f i,k i])[2*j]? =some (f j)/\((Xk n).flatMap fun i=>[f i,k i])[2*j+1]? =some (k j):=by
  intro n
  induction n with
  |zero=>intro j f k d;omega| succ n e=>
    intro j f k d;have a:((Xk n).flatMap fun i=>[f i,k i]).length=2*n:=(by rw [XC];simp [XJ];omega);rw [XU,Xq];by_cases h:j<n
    . rw [Xu (by omega),Xu (by omega)];exact e j f k h
    . have:j=n:=(by omega);subst this;rw [Xs (by omega),Xs (by omega),a];simp
 exact b _ _ _ _ c
theorem C3{f:Hp}(d:f.t.Sized f.n){m r L M:Value}{b:Nat}{X Y:List Int}(u:Row f b [M,m,r,L] 1)(H:ay f 1 (encI .i64) m X)(N:ay f 1 (encI .i64) r Y)(hl:X.length=Y.length)(I:X.length<1000):
 Iter zB 213 [] [ptrTo b] f (fun c=>c=b\/ar m c\/ar r c) ((plN X Y).map fun p=>[.agg ⟨j7 p⟩]):=by
 refine uF fun O J Z x h F s t=>?_;refine enter (n:=38) (rs:=[]) rfl Tryz.e213 rfl rfl rfl (lbt rfl) ?_;have y:=s.load d (u.load1 (o:=1) rfl) (.inl rfl);simp only [BZ,y,H.lenq,seval];refine az (fun(i:Nat) j h=>i<=X.length/\ ∃F,ItS f (fun c=>c=b\/ar m c\/ar r c) h F/\J (2*i) h F/\j 0=.func (.yield O) #[] #[]/\j 1=ptrTo b/\j 8=.int .i64 X.length/\j 9=.int .i64 i) (fun i=>X.length-i) ?_ 0 _ _ ?_
 . intro i P j h ⟨hi,F,s,t,r0,r1,r8,r9⟩;by_cases hlt:i<X.length
   . have z:=s.sl d H (fun b h=>.inr (.inl h));have A:=s.sl d N (fun b h=>.inr (.inr h));have y:=s.load d (u.load1 (o:=1) rfl) (.inl rfl);have Q:=s.load d (u.load1 (o:=2) rfl) (.inl rfl);obtain⟨c,o,k,B⟩:=z.ix (kd:=.i64) (aH _) hlt;obtain⟨c2,o2,g,l⟩:=A.ix (kd:=.i64) (aH _) (i:=i) (by omega);have S:=Si s.ok;have w:ag .i64 ((i:Int)+1)=((i+1:Nat):Int):=(by rw [wrap64]<;>omega);simp only [BZ,r8,r9,an,hlt,seval];refine av (ax rfl) (q:=1024) (ps:=[]) (by kernel_rfl) ?_;simp only [BZ,cls,r1,y,Q,k,g,B,l,encI,seval];refine ec (bg (by exact Tryz.t23.1) (by exact Tryz.e2E) (by decide) (by rfl)) S ?_;clear S;intro h e S C D;simp only [LC,aU,bD,ae,Xi,Xh,Xn,Xr,seval]at S;simp only [BZ,cls,Xm,seval];have T:ag .i64 1=1:=rfl;have U:ag .i64 2=2:=rfl;have K:=plN_at X Y hlt;rw [dD];simp only [BZ,Xm,r0,S.ld (b:=e) (o:=0) m0 rfl,S.ld (b:=e) (o:=1) m0 rfl,seval];refine gz x (s.gr S.gr) (x.gr _ _ _ _ t S.gr) (i:=2*i) (by rw [Xp,K.1];simp [j7,Xj,hlt]) ?_ ?_ ?_
     . intro V F2 a W E _;have nF:e∉F:=fun hm=>(by have:=s.lt _ hm;omega);have R:Row V e _ 1:=(S.row m0).of_get (E.get _ ((S.row m0).lt S.ok) nF);have R1:=R.load1 (o:=1) rfl;have ad:True:=trivial;simp only [BZ,T,seval];rw [dD];simp only [BZ,Xm,r0,R1,seval];refine gz x W a (i:=2*i+1) (by rw [Xp,K.2];simp [j7,Xj,show i<Y.length by omega]) ?_ ?_ ?_
       . intro h3 F3 a s3 _ _;simp only [BZ,U,seval];rw [dD];simp only [BZ,r9,w,seval];exact P (i+1) _ _ (by omega) ⟨by omega,F3,s3,a,by simp [am,r0,r1,r8]⟩
       . intro G a _;simp only [BZ,seval];exact iL rfl ⟨rfl,.inr (.inl ⟨_,rfl,a⟩)⟩
       . intro v G a;simp only [BZ];exact dB (cP ⟨rfl,.inr (.inr ⟨_,rfl,a⟩)⟩)
     . intro G a _;simp only [BZ,seval];exact iL rfl ⟨rfl,.inr (.inl ⟨_,rfl,a⟩)⟩
     . intro v G a;simp only [BZ];exact dB (cP ⟨rfl,.inr (.inr ⟨_,rfl,a⟩)⟩)
   . simp only [BZ,r8,r9,an,hlt,seval];have:i=X.length:=(by omega);subst this;exact dl (cP ⟨rfl,_,rfl,rfl,.inl ⟨_,F,rfl,by simpa [plN_len]using t⟩⟩)
 . exact⟨by omega,F,s,t,by simp [am,dy,al]⟩
def plA(n:Nat)(A:List Arc):List Pl:=(Xk A.length).flatMap fun(i:Nat)=>[⟨i,0,9,(A.getD i default).s,0,n⟩,⟨i,1,9,(A.getD i default).t,0,n⟩,⟨i,2,10,(A.getD i default).w,0,2147483648⟩]
theorem flat3_at{b:Type}(f k l:Nat->b): ∀(n j:Nat),j<n->((Xk n).flatMap fun i=>[f i,k i,l i])[3*j]? =some (f j)/\((Xk n).flatMap fun i=>[f i,k i,l i])[3*j+1]? =some (k j)/\((Xk n).flatMap fun i=>[f i,k i,l i])[3*j+2]? =some (l j):=by
 intro n
 induction n with
 |zero=>intro j c;omega| succ n d=>
   intro j c;have a:((Xk n).flatMap fun i=>[f i,k i,l i]).length=3*n:=(by rw [XC];simp [XJ];omega);rw [XU,Xq];by_cases h:j<n
   . rw [Xu (by omega),Xu (by omega),Xu (by omega)];exact d j h
   . have:j=n:=(by omega);subst this;rw [Xs (by omega),Xs (by omega),Xs (by omega),a];simp
theorem plA_len(n:Nat)(A:List Arc):(plA n A).length=3*A.length:=by unfold plA;rw [XC];simp [XJ];omega
theorem arcs_iter {j:Hp} (d:j.t.Sized j.n) {X Y q:Value} {b n:Nat} {A:List Arc} (K:Row j b [.int .i64 n,X,Y,q] 1) (L:ay j 3 cE q A) (M:A.length<1000):
 Iter zB 214 [] [ptrTo b] j (fun c=>c=b\/ar q c) ((plA n A).map fun p=>[.agg ⟨j7 p⟩]):=by
 refine uF fun lb J Z k h F s u=>?_;refine enter (n:=44) (rs:=[]) rfl Tryz.e214 rfl rfl rfl (lbt rfl) ?_;have l0:=s.load d (K.load1 (o:=0) rfl) (.inl rfl);have l3:=s.load d (K.load1 (o:=3) rfl) (.inl rfl);simp only [BZ,l0,l3,L.lenq,seval];refine az (fun(i:Nat) l h=>i<=A.length/\ ∃F,ItS j (fun c=>c=b\/ar q c) h F/\J (3*i) h F/\l 0=.func (.yield lb) #[] #[]/\l 3=.int .i64 n/\l 11=q/\l 12=.int .i64 A.length/\l 13=.int .i64 i) (fun i=>A.length-i) ?_ 0 _ _ ?_
 . intro i ih l h ⟨hi,F,s,u,r0,r3,r11,r12,r13⟩;by_cases hlt:i<A.length
   . have y:=s.sl d L (fun b h=>.inr h);obtain⟨c,o,r,z⟩:=y.ix (kd:=.i64) ez hlt;have S:=Si s.ok;have w:ag .i64 ((i:Int)+1)=((i+1:Nat):Int):=(by rw [wrap64]<;>omega);have w1:ag .i64 1=1:=rfl;have w2:ag .i64 2=2:=rfl;have w3:ag .i64 3=3:=rfl;have B:=flat3_at (fun(i:Nat)=>(⟨i,0,9,(A.getD i default).s,0,n⟩:Pl)) (fun(i:Nat)=>⟨i,1,9,(A.getD i default).t,0,n⟩) (fun(i:Nat)=>⟨i,2,10,(A.getD i default).w,0,2147483648⟩) A.length i hlt;have C:A.getD i default=A[i]:=(by simp [Xj,hlt]);simp only [BZ,r11,r12,r13,an,hlt,r,z,seval];refine ac au S ?_;clear S;intro h D S N;simp only [BZ,cE,seval];refine aw (S.store (i:=0) rfl ?_ ?_ rfl rfl ?_ ono) ?_
     . exact(by exact Tryz.t90.2.1)
     . exact(by intro x e;cases e)
     . exact lbt rfl
     clear S;rintro h ⟨S,f⟩;clear f;simp only [LC,ae,lay,Xb,Xc,seval]at S;simp only [BZ,r3,S.ld (b:=D) (o:=0) m0 rfl,S.ld (b:=D) (o:=1) m0 rfl,S.ld (b:=D) (o:=2) m0 rfl,seval];refine ac (bg (by exact Tryz.t305.1) (by exact Tryz.e259E) (by decide) (by rfl)) S ?_;clear S;intro h g S O;simp only [LC,aU,bD,ae,Xi,Xh,Xn,Xr,seval]at S;simp only [BZ,Xm,seval];have P:g∉F:=fun m=>(by have:=s.lt _ m;omega);have R:Row h g _ 1:=S.row m0;have ad:=R.lt S.ok;rw [dD];simp only [BZ,Xm,S.lds (b:=g) (o:=0) (n:=6) m0 (lbt rfl),seval];refine ac au S ?_;clear S;intro h b7 S Q;simp only [BZ,XM,XL,XZ,seval];refine aw (S.store (i:=0) rfl ?_ ?_ rfl rfl ?_ ono) ?_
     . exact(by exact Tryz.t259.2.1)
     . exact(by intro x e;cases e)
     . exact lbt rfl
     clear S;rintro h ⟨S,f⟩;clear f;simp only [LC,ae,lay,Xb,Xc,seval]at S;simp only [BZ,r0,S.lds (b:=b7) (o:=0) (n:=6) m0 (lbt rfl),seval];have R:Row h g _ 1:=S.row m1;refine gz k (s.gr S.gr) (k.gr _ _ _ _ u S.gr) (i:=3*i) (by rw [Xp,show(plA n A)[3*i]? =_ from B.1,C];simp [j7]) ?_ ?_ ?_
     . intro h2 F2 a T E G;have R0:=R;replace R:Row h2 g _ 1:=R.of_get (E.get _ (R.lt S.ok) P);have H:g∉F2:=fun m=>by
        rcases G _ m with m|m
        . exact P m
        . have:=R0.lt S.ok;omega
       have S:=Si T.ok;simp only [BZ,w1,seval];rw [dD];simp only [BZ,Xm,R.load (o:=6) (n:=6) (lbt rfl),seval];refine ac au S ?_;clear S;intro h b8 S U;simp only [BZ,X2,XM,XL,XZ,seval];refine aw (S.store (i:=0) rfl ?_ ?_ rfl rfl ?_ ono) ?_
       . exact(by exact Tryz.t259.2.1)
       . exact(by intro x e;cases e)
       . exact lbt rfl
       clear S;rintro h ⟨S,f⟩;clear f;simp only [LC,ae,lay,Xb,Xc,seval]at S;simp only [BZ,r0,S.lds (b:=b8) (o:=0) (n:=6) m0 (lbt rfl),seval];replace R:=R.gr S.gr;refine gz k (T.gr S.gr) (k.gr _ _ _ _ a S.gr) (i:=3*i+1) (by rw [Xp,show(plA n A)[3*i+1]? =_ from B.2.1,C];simp [j7]) ?_ ?_ ?_
       . intro h3 F3 a V I af;replace R:Row h3 g _ 1:=R.of_get (I.get _ (R.lt S.ok) H);have S:=Si V.ok;simp only [BZ,w2,seval];rw [dD];simp only [BZ,Xm,R.load (o:=12) (n:=6) (lbt rfl),seval];refine ac au S ?_;clear S;intro h b9 S W;simp only [BZ,X2,XM,XL,XZ,seval];refine aw (S.store (i:=0) rfl ?_ ?_ rfl rfl ?_ ono) ?_
         . exact(by exact Tryz.t259.2.1)
         . exact(by intro x e;cases e)
         . exact lbt rfl
         clear S;rintro h ⟨S,f⟩;clear f;simp only [LC,ae,lay,Xb,Xc,seval]at S;simp only [BZ,r0,S.lds (b:=b9) (o:=0) (n:=6) m0 (lbt rfl),seval];refine gz k (V.gr S.gr) (k.gr _ _ _ _ a S.gr) (i:=3*i+2) (by rw [Xp,show(plA n A)[3*i+2]? =_ from B.2.2,C];simp [j7]) ?_ ?_ ?_
         . intro h4 F4 a s4 ai ak;simp only [BZ,w3,seval];rw [dD];simp only [BZ,r13,w,seval];exact ih (i+1) _ _ (by omega) ⟨by omega,F4,s4,a,by simp [am,r0,r3,r11,r12]⟩
         . intro t a _;simp only [BZ,seval];exact iL rfl ⟨rfl,.inr (.inl ⟨_,rfl,a⟩)⟩
         . intro v t a;simp only [BZ];exact dB (cP ⟨rfl,.inr (.inr ⟨_,rfl,a⟩)⟩)
       . intro t a _;simp only [BZ,seval];exact iL rfl ⟨rfl,.inr (.inl ⟨_,rfl,a⟩)⟩
       . intro v t a;simp only [BZ];exact dB (cP ⟨rfl,.inr (.inr ⟨_,rfl,a⟩)⟩)
     . intro t a _;simp only [BZ,seval];exact iL rfl ⟨rfl,.inr (.inl ⟨_,rfl,a⟩)⟩
     . intro v t a;simp only [BZ];exact dB (cP ⟨rfl,.inr (.inr ⟨_,rfl,a⟩)⟩)
   . simp only [BZ,r12,r13,an,hlt,seval];have:i=A.length:=(by omega);subst this;exact dl (cP ⟨rfl,_,rfl,rfl,.inl ⟨_,F,rfl,by simpa [plA_len]using u⟩⟩)
 . exact⟨by omega,F,s,u,by simp [am,dy]⟩
theorem look1_ok{a:Hp}(f:a.t.Sized a.n){d:Gra}(c:fI d){i j k:Value}{b:Nat}(l:Row a b [.int .i64 d.nodes,i,j,k] 1):Ret zB 174 [ptrTo b] a fun v e=>Gr a e/\oJ 0 a.n v e:=by have S:=Si f;have m:=c.n1;have p:=c.n2;refine aa (n:=5) (rs:=[.tmp 1]) rfl Tryz.e174 rfl rfl rfl (lbt rfl) ?_;simp only [BZ,l.load1 (o:=0) rfl,seval];refine step_ret (one_ok S.ok (by omega) (by omega)) ?_;intro v h ⟨g,t⟩;replace S:=S.call g;clear g;simp only [BZ,ab,seval];exact⟨S.gr,t⟩
theorem look2_ok{a:Hp}(k:a.t.Sized a.n){c:Gra}(d:fI c){e f i:Value}(l:dh a e f i c){b:Nat}(m:Row a b [.int .i64 c.nodes,e,f,i] 1):Ret zB 176 [ptrTo b] a fun v j=>Gr a j/\oJ 0 a.n v j:=by have S:=Si k;refine aa (n:=4) (rs:=[.tmp 1]) rfl Tryz.e176 rfl rfl rfl (lbt rfl) ?_;simp only [BZ,m.load (o:=0) (n:=4) (lbt rfl),seval];refine step_ret (shapes_ok S.ok d l) ?_;intro v h ⟨g,t⟩;replace S:=S.call g;clear g;simp only [BZ,ab,seval];exact⟨S.gr,t⟩
theorem look4_ok{a:Hp}(k:a.t.Sized a.n){c:Gra}(d:fI c){e f i:Value}(l:dh a e f i c){b:Nat}(m:Row a b [.int .i64 c.nodes,e,f,i] 1):Ret zB 180 [ptrTo b] a fun v j=>Gr a j/\oJ 0 a.n v j:=by have S:=Si k;have p:=d.many;refine aa (n:=6) (rs:=[.tmp 1]) rfl Tryz.e180 rfl rfl rfl (lbt rfl) ?_;simp only [BZ,m.load1 (o:=3) rfl,l.A.lenq,seval];refine step_ret (one_ok S.ok (by omega) (by omega)) ?_;intro v h ⟨g,t⟩;replace S:=S.call g;clear g;simp only [BZ,ab,seval];exact⟨S.gr,t⟩
theorem look3_ok{d:Hp}(x:d.t.Sized d.n){f:Gra}(a:fI f){l m s:Value}(t:dh d l m s f){b q:Nat}(y: ∀c,ar l c->c<q)(z: ∀c,ar m c->c<q)(A:Row d b [.int .i64 f.nodes,l,m,s] 1):Ret zB 178 [ptrTo b] d fun v u=>Gr d u/\oJ q d.n v u:=by
 have S:=Si x;have B:=a.n2;have C:=a.lX;have D:=a.lY;refine aa (n:=4) (rs:=[.tmp 1]) rfl Tryz.e178 rfl rfl rfl (lbt rfl) ?_;simp only [BZ,A.load (o:=0) (n:=4) (lbt rfl),seval];refine step_ret (nodes_ok S.ok) ?_;intro v h ⟨g,b2,e,q2,R⟩;replace S:=S.call g;clear g;subst e;simp only [BZ,ab,seval];refine⟨S.gr,_,#[],#[ptrTo b2],_,_,rfl,C3 S.ok R (t.X.gr S.gr) (t.Y.gr S.gr) (by omega) (by omega),fun p r=>?_,fun c j=>?_⟩
 . unfold plN at r;simp only [List.mem_flatMap,List.mem_range,List.mem_cons,List.not_mem_nil,or_false]at r;obtain⟨i,w,rfl|rfl⟩:=r
   . have:=a.cX f.X[i] (XS w);simp only [Xj,Xw w,XT];omega
   . have k:i<f.Y.length:=(by omega);have:=a.cY f.Y[i] (XS k);simp only [Xj,Xw k,XT];omega
 . rcases j with rfl|j|j
   . exact .inr q2
   . exact .inl (y c j)
   . exact .inl (z c j)
theorem look5_ok{a:Hp}(u:a.t.Sized a.n){f:Gra}(d:fI f){m q j:Value}(w:dh a m q j f){b r:Nat}(x: ∀c,ar j c->c<r)(y:Row a b [.int .i64 f.nodes,m,q,j] 1):Ret zB 181 [ptrTo b] a fun v s=>Gr a s/\oJ r a.n v s:=by
 have S:=Si u;have z:=d.many;refine aa (n:=4) (rs:=[.tmp 1]) rfl Tryz.e181 rfl rfl rfl (lbt rfl) ?_;simp only [BZ,y.load (o:=0) (n:=4) (lbt rfl),seval];refine step_ret (arcs_ok S.ok) ?_;intro v h ⟨g,b2,e,q2,R⟩;replace S:=S.call g;clear g;subst e;simp only [BZ,ab,seval];refine⟨S.gr,_,#[],#[ptrTo b2],_,_,rfl,arcs_iter S.ok R (w.A.gr S.gr) (by omega),fun p k=>?_,fun c l=>?_⟩
 . unfold plA at k;simp only [List.mem_flatMap,List.mem_range,List.mem_cons,List.not_mem_nil,or_false]at k;obtain⟨i,t,h⟩:=k;have:=d.arcs f.arcs[i] (XS t);simp only [Xj,Xw t,XT]at h;rcases h with rfl|rfl|rfl<;>(simp only [];omega)
 . rcases l with rfl|l
   . exact .inr q2
   . exact .inl (x c l)
theorem look_ok {s:Hp} (A:s.t.Sized s.n) {Q:Gra} (l:fI Q) {vx vy va:Value} (B:dh s vx vy va Q):Ret zB 127 [i7 Q vx vy va] s fun v f=>Gr s f:=by
 have S:=Si A;refine aa (n:=44) (rs:=[]) rfl Tryz.e127 rfl rfl rfl (lbt rfl) ?_;simp only [BZ,i7,seval];refine ac (bR (by intro x e;cases e)) S ?_;clear S;intro h b S aL;simp only [ae]at S;simp only [BZ,seval];refine ac (bg (by exact Tryz.t257.1) (by exact Tryz.e255E) (by decide) (by rfl)) S ?_;clear S;intro h bs S af;simp only [LC,aU,bD,ae,Xi,Xh,Xn,Xr,seval]at S;simp only [BZ,Xm,seval];have R: ∀i,i<5-> ∃g a c,[Value.func (.func 174) #[] #[.pointer (some ⟨b,0,none⟩)],.func (.func 176) #[] #[.pointer (some ⟨b,0,none⟩)],.func (.func 178) #[] #[.pointer (some ⟨b,0,none⟩)],.func (.func 180) #[] #[.pointer (some ⟨b,0,none⟩)],.func (.func 181) #[] #[.pointer (some ⟨b,0,none⟩)]][i]? =some (.func (.func g) a c)/\
  ∀f,Gr h f->Ret zB g (a.toList++c.toList) f fun v k=>Gr f k/\oJ s.n f.n v k:=by
  intro i hi;have t:=S.row (b:=b) m1;have r:=B.gr S.gr;have T: ∀f v k,Gr f k/\oJ 0 f.n v k->Gr f k/\oJ s.n f.n v k:=by rintro f v k ⟨a,U,a1,V,J,D,b1,b2,b3,C⟩;exact⟨a,U,a1,V,J,D,b1,b2,b3,fun c u=>(C c u).elim (fun h=>by omega) .inr⟩
  match i,hi with
  |0,_=>exact⟨_,_,_,rfl,fun f g=>iZ (look1_ok g.ok l (t.gr g)) (T f)⟩
  |1,_=>exact⟨_,_,_,rfl,fun f g=>iZ (look2_ok g.ok l (r.gr g) (t.gr g)) (T f)⟩
  |2,_=>exact⟨_,_,_,rfl,fun f g=>look3_ok g.ok l (r.gr g) (fun c u=>B.X.lt A u) (fun c u=>B.Y.lt A u) (t.gr g)⟩
  |3,_=>exact⟨_,_,_,rfl,fun f g=>iZ (look4_ok g.ok l (r.gr g) (t.gr g)) (T f)⟩
  |4,_=>exact⟨_,_,_,rfl,fun f g=>look5_ok g.ok l (r.gr g) (fun c u=>B.A.lt A u) (t.gr g)⟩
 have K:=S.row (b:=bs) m0;have g0:=S.gr;have E:=S.ok;clear S B A;revert R K;generalize [Value.func (.func 174) #[] #[.pointer (some ⟨b,0,none⟩)],.func (.func 176) #[] #[.pointer (some ⟨b,0,none⟩)],.func (.func 178) #[] #[.pointer (some ⟨b,0,none⟩)],.func (.func 180) #[] #[.pointer (some ⟨b,0,none⟩)],.func (.func 181) #[] #[.pointer (some ⟨b,0,none⟩)]]=fs;intro R K;rename Hp=>G;have a0:=K.lt E;have a3:=g0.n;have S:=Si E;refine rb (fun(i:Nat) M d f=>i<=5/\ ∃j:List Nat,d=j.map qS/\St NoM G f (dq j) []/\M 10=.slice (some ⟨bs,0,none⟩) 5 5/\M 11=.int .i64 5/\M 12=.int .i64 i) (fun i=>5-i) ?_ 0 _ _ _ ?_
 . clear S;intro i ih M d h ⟨hi,j,N,S,r10,r11,r12⟩;have w:ag .i64 ((i:Int)+1)=((i+1:Nat):Int):=(by rw [wrap64]<;>omega);by_cases hlt:i<5
   . obtain⟨g,a,c,W,t⟩:=R i hlt;have Rl:=(K.gr S.gr).load1 W;have m:(i:Int)<5:=(by omega);simp only [BZ,r10,r11,r12,m,hlt,Rl,seval];refine ac au S ?_;clear S;intro h b2 S ai;simp only [BZ,seval];refine aw (aq S (i:=0) rfl ?_ ?_ ?_ ono) ?_
     . exact(by simp only [F0])
     . exact(by exact ca)
     . exact Xf (lbt rfl)
     clear S;rintro h ⟨S,Y⟩;clear Y;simp only [LC,ae,lay,Xb,Xc,seval]at S;simp only [BZ,seval];replace S:=S.drop1;have kl: ∀b∈keys (dq j) [],b<h.n:=fun b q=>S.key_lt q;refine step_ret (t _ S.gr) ?_;intro v h ⟨g,U,V,post,J,D,e,it,hps,hD⟩;replace S:=S.call g;clear g;subst e;simp only [BZ];refine js S (g:=U) (a:=V) (b:=post) (by simp [bZ,am]) rfl rfl ?_;intro O H I z a4 a5 g2;obtain⟨X,hX,z⟩: ∃X:gC,X=_/\St NoM G O ((I,.loop X)::(H,.dfr)::dq j) []:=⟨_,rfl,z⟩;have hJ:Yld zB I (fun _ f F=>St NoM G f ((I,.loop X)::(H,.dfr)::dq j) []/\F=keys ((I,.loop X)::(H,.dfr)::dq j) []) (fun _ _=>False) (J.map fun p=>[.agg ⟨j7 p⟩]):=by
      refine⟨?_,?_,fun _ _ h=>h.elim,?_⟩
      . rintro i h F ⟨S,rfl⟩;exact⟨S.ok,fun b q=>S.key_lt q⟩
      . rintro i h F f ⟨S,rfl⟩ g;exact⟨S.call g,rfl⟩
      . rintro i x h F hx ⟨S,rfl⟩;obtain⟨p,hp,rfl⟩: ∃p∈J,x=[.agg ⟨j7 p⟩]:=(by rw [Xp,Option.map_eq_some_iff]at hx;obtain⟨p,G,O⟩:=hx;exact⟨p,XK G,O.symm⟩);obtain⟨p1,p2⟩:=hps p hp;have Z: ¬p.n<p.lo:=(by omega);have ad: ¬p.hi<=p.n:=(by omega);subst hX;refine ju (S.get m0) (by rw [Tryz.e127];rfl) rfl ?_;have S0:=S;replace S:=S.base;simp only [BZ];refine ac au S ?_;clear S;intro h C S ak;simp only [BZ,j7,seval];refine aw (S.store (i:=0) rfl ?_ ?_ rfl rfl ?_ ono) ?_
        . exact(by exact Tryz.t259.2.1)
        . exact(by intro x e;cases e)
        . exact lbt rfl
        clear S;rintro h ⟨S,Y⟩;clear Y;simp only [LC,ae,lay,Xb,Xc,seval]at S;simp only [BZ];refine iT S (i:=1) rfl rfl rfl rfl rfl ?_;clear S;intro h S;simp only [BZ,Z,ad,S.ld (b:=C) (o:=3) m0 rfl,S.ld (b:=C) (o:=4) m0 rfl,S.ld (b:=C) (o:=5) m0 rfl,seval];refine fG S (i:=1) rfl ?_;clear S;intro h S;exact .inl ⟨rfl,_,⟨S0.rebase S.drop1,rfl⟩,S.fr,S.drop1.key_new⟩
     refine eQ (AQ it hJ (h:=O) (F:=keys ((I,.loop _)::(H,.dfr)::dq j) []) g2.fr (fun b q hlt=>?_) ⟨z,rfl⟩) fun o rc f y=>mm y ?_
     . intro N;have P:=z.key_own q;rcases hD b N with hh|hh
       . rcases P with P|P
         . omega
         . exact P
       . rcases List.mem_cons.1 q with rfl|q
         . omega
         . rcases List.mem_cons.1 q with rfl|q
           . omega
           . have:=kl b q;omega
     . rintro F ⟨S,rfl⟩;subst hX;refine⟨_,S.get m0,Nat.zero_ne_one,?_⟩;replace S:=S.dead;show Run _ _ _ _ _ _ _ _;simp only [BZ,r12,w,seval];exact ih (i+1) _ _ _ (by omega) ⟨by omega,H::j,by rw [N];rfl,S,by simp [am,r10,r11]⟩
   . have m: ¬(i:Int)<5:=(by omega);simp only [BZ,r11,r12,m,seval];subst N;refine dl (gu j h (L:=[]) (by rw [List.append_nil];exact S) fun f z=>⟨rfl,_,rfl,g0.trans z.gr⟩)
 . exact⟨by omega,[],rfl,S,by simp [am]⟩
end Go.Ab
end
section
namespace Go.Ab
theorem ay.form{d:Type}{h:Hp}{k:Nat}{enc:d->List Value}{v:Value}{xs:List d}(s:ay h k enc v xs): ∃a n c,v=.slice a n c:=by rcases s with⟨rfl,_⟩|⟨b,o,s,c,rfl,_⟩<;>exact⟨_,_,_,rfl⟩
section
variable{M:Nat->Prop}{h0 h:Hp}{E:Env}{L:List (Nat×Ob)}{G:List GL}
def WrK{a:Type}(h:Hp)(k:Nat)(enc:a->List Value)(w:Value)(l:List a):Prop:=l≠ []-> ∃b,w=.slice (some ⟨b,0,some k⟩) l.length l.length/\Row h b (l.flatMap enc) 1
theorem WrK.mo{a:Type}{M:Nat->Prop}{h c:Hp}{k:Nat}{enc:a->List Value}{w:Value}{l:List a}(r:WrK h k enc w l)(g:Mo M h c)(d: ∀b,ar w b-> ¬M b):WrK c k enc w l:=
 fun f=>by obtain⟨b,e,k⟩:=r f;exact⟨b,e,g.has (o:=.row _ 1) k (d b (by rw [e];rfl))⟩
theorem St.cloneW{m:Type}{enc:m->List Value}{ys:List m}(S:St M h0 h L G){t i e:TypeId}{d k md:Nat}{A:List Value}{b:Nat}{x:Value}(o:E.und t=some (.slice e))(p:dP E e d k A)(q:0<d)
 (r:dV E i=some false) (s:ay h k enc x ys) (f: ∀x,(enc x).length=k) (u:0<k) (g:(ys.length*k)*(d+1)<=70368744177664) {ts:List TypeId}
 (v:Row h b [] md):
 ∃a v',du E h (t::i::ts) (.slice (some ⟨b,0,none⟩) 0 0) x=some (a,v')/\St M h0 a L G/\Gr h a/\ay a k enc v' ys/\(∀c,ar v' c->c=b\/h.n<=c)/\WrK a k enc v' ys:=by
 obtain⟨a,v',w,B,C,D,F⟩:=S.cloneSl (enc:=enc) (xs:=[]) o p q r s f u (by simpa using g) (ts:=ts) (b:=b) (md:=md) (by simpa using v);refine⟨a,v',w,B,C,by simpa using D,F,fun j=>?_⟩;obtain⟨H,I,y,J⟩:=S.clone o p q r s.src (aI f ys).symm (n:=0) (by simp) u (by rw [aI f];simpa using g) (ts:=ts) v;have l:du E h (t::i::ts) (.slice (some ⟨b,0,none⟩) 0 0) x=some (a,v'):=w;rw [l]at y;cases y;rcases J with⟨K,_⟩|⟨z,N,T⟩
 . exact absurd (List.length_eq_zero_iff.1 K) j
 . refine⟨z,by rw [N,Xh],?_⟩;have:=T.row (b:=z) m0;simpa using this
end
end Go.Ab

end
section
namespace Go.Ab
open Go.Proofs
set_option maxRecDepth 10000
theorem check1_ok{a:Hp}(c:a.t.Sized a.n){b:Nat}:dU zB 126 [ptrTo b] none a fun o d e=>(∃v,o=.ret v)/\d=none/\Gr a e:=by have S:=Si c;refine enter (n:=17) (rs:=[]) rfl Tryz.e126 rfl rfl rfl (lbt rfl) ?_;simp only [BZ,seval];exact dl (cP ⟨rfl,_,rfl,⟨_,rfl⟩,rfl,S.gr⟩)
theorem Bi{c:Hp}(q:c.t.Sized c.n){d:Gra}(f:fI d){j k m:Value}(r:dh c j k m d):bG zB 63 [i7 d j k m] c .nilIface:=by
 have S:=Si q;refine aa (n:=6) (rs:=[.cell 2 69]) rfl Tryz.e63 rfl rfl rfl (lbt rfl) ?_;simp only [BZ,i7,seval];refine ac (bR (by intro x e;cases e)) S ?_;clear S;intro h b S s;simp only [ae]at S;simp only [BZ];refine ac au S ?_;clear S;intro h t S p;simp only [BZ,S.lds (b:=b) (o:=0) (n:=4) m1 (lbt rfl),seval];refine step_ret (look_ok S.ok f (r.gr S.gr)) ?_;intro v h g;replace S:=S.call g;clear g;simp only [BZ,seval];refine aw (aq S (i:=0) rfl ?_ ?_ ?_ ono) ?_
 . exact(by simp only [F0])
 . exact(by exact fl_nili)
 . exact Xf (lbt rfl)
 clear S;rintro h ⟨S,u⟩;clear u;simp only [LC,ae,lay,Xb,Xc,seval]at S;simp only [BZ];refine fS (un_fn (eQ (check1_ok S.ok) fun o w y ⟨a,b,g⟩=>⟨a,b,cP ⟨rfl,?_⟩⟩));replace S:=S.call g;have l:=S.ld (b:=t) (o:=0) m0 rfl;exact⟨_,uz (by decide) (by simp only [aS,al,seval];exact CE Tryz.t69.1 l),rfl,S.gr⟩
theorem sF{a:Hp}(j:a.t.Sized a.n){v:Value}{xs:List Int}(k:ay a 1 (encI .i64) v xs)(t:xs.length<1000000):Ret zB 132 [v] a fun r d=>Gr a d/\ay d 1 (encI .i64) r xs/\ ∀c,ar r c->a.n<=c:=by
 have S:=Si j;rcases k with⟨rfl,rfl⟩|⟨b,o,s,c,rfl,l,m⟩
 . refine aa (n:=8) (rs:=[.tmp 2]) rfl Tryz.e132 rfl rfl rfl (lbt rfl) ?_;simp only [BZ,ab,seval];exact⟨S.gr,.inl ⟨rfl,rfl⟩,fun c f=>f.elim⟩
 . refine aa (n:=8) (rs:=[.tmp 2]) rfl Tryz.e132 rfl rfl rfl (lbt rfl) ?_;simp only [BZ,seval];refine ac (bg (by exact Tryz.t23.1) (by exact Tryz.e2E) (by decide) (by rfl)) S ?_;clear S;intro h u S i;simp only [LC,aU,bD,ae,Xi,Xh,Xn,Xr,seval]at S;simp only [BZ,seval];refine dX (S.cloneSl (enc:=encI .i64) (xs:=[]) Tryz.t23.1 Tryz.e2E (by decide) Tryz.t23.2.2.2.2.2 (.inr ⟨b,o,s,c,rfl,l,S.old m (fun h=>h)⟩) (fun x=>rfl) (by decide) (by simp only [List.length_nil,Xh];omega) (S.row m0)) ?_;rintro d v ⟨p,g,q,f⟩;simp only [BZ,ab,seval];refine⟨p.gr,by simpa using q,fun c h=>(f c h).elim (fun e=>by omega) (fun e=>XD S.fr.n e)⟩
theorem BX{a:Hp}(j:a.t.Sized a.n){v:Value}{xs:List Arc}(k:ay a 3 (cE) v xs)(t:xs.length<1000000):Ret zB 133 [v] a fun r d=>Gr a d/\ay d 3 (cE) r xs/\(∀c,ar r c->a.n<=c)/\WrK d 3 cE r xs:=by
 have S:=Si j;rcases k with⟨rfl,rfl⟩|⟨b,o,s,c,rfl,l,m⟩
 . refine aa (n:=8) (rs:=[.tmp 2]) rfl Tryz.e133 rfl rfl rfl (lbt rfl) ?_;simp only [BZ,ab,seval];exact⟨S.gr,.inl ⟨rfl,rfl⟩,fun c f=>f.elim,fun h=>absurd rfl h⟩
 . refine aa (n:=8) (rs:=[.tmp 2]) rfl Tryz.e133 rfl rfl rfl (lbt rfl) ?_;simp only [BZ,seval];refine ac (bg (by exact Tryz.t35.1) (by exact Tryz.e90E) (by decide) (by rfl)) S ?_;clear S;intro h u S i;simp only [LC,aU,bD,ae,Xi,Xh,Xn,Xr,seval]at S;simp only [BZ,seval];refine dX (S.cloneW (enc:=cE) (ys:=xs) Tryz.t35.1 Tryz.e90E (by decide) Tryz.t35.2.2.2.2.2 (.inr ⟨b,o,s,c,rfl,l,S.old m (fun h=>h)⟩) (fun x=>rfl) (by decide) (by omega) (S.row m0)) ?_;rintro d v ⟨p,g,q,f,w⟩;simp only [BZ,ab,seval];exact⟨p.gr,q,fun c h=>(f c h).elim (fun e=>by omega) (fun e=>XD S.fr.n e),w⟩
structure pB(h:Hp)(bd:Nat)(vB:Value)(xs:List Int)(a:Nat):Prop where
 sl:ay h 1 (encI .u8) vB xs
 ne: ¬ar vB bd
 few:xs.length<1000000
 at_:a<100000
def drV(xs:List Int)(n a:Nat):Nat:=if h:xs.length=0 then 0 else(ag .u8 (xs[a%xs.length]'(Nat.mod_lt _ (by omega))+ag .u8 (ag .i64 ((a:Int).tdiv (xs.length:Int))))%(n:Int)).toNat
theorem AL{f:Hp}(C:f.t.Sized f.n){d a n:Nat}{g:Value}{xs:List Int}(p:Row f d [g,.int .i64 a] 1)(D:pB f d g xs a)(L:1<=n)(E:n<1000):
 Ret zB 61 [ptrTo d,.int .i64 n] f fun v x=>Mo (· =d) f x/\ ∃r y:Nat,v=.int .i64 r/\r<n/\y<=a+1/\Row x d [g,.int .i64 y] 1/\r=drV xs n a:=by
 have S:=St.init1 C (o:=.row [g,.int .i64 a] 1) p;obtain⟨s,u,M,N⟩:=D;have O:=s.fl;have F:ag .i64 ((a:Int)+1)=((a+1:Nat):Int):=by rw [wrap64]<;>omega
 have G:ag .i64 (((a+1:Nat):Int)-1)=(a:Int):=by rw [wrap64]<;>omega
 have H: ¬(n:Int)<1:=by omega
 by_cases j:xs.length=0
 . have t:(xs.length:Int)=0:=(by omega);refine aa (n:=55) (rs:=[.tmp 4]) rfl Tryz.e61 rfl rfl rfl (lbt rfl) ?_;simp only [BZ,ab,s.lenq,t,S.ld (b:=d) (o:=0) m0 rfl,seval];exact⟨S.fr,0,a,rfl,by omega,by omega,S.row m0,by unfold drV;rw [dif_pos j]⟩
 . have t: ¬(xs.length:Int)=0:=(by omega);have k:a%xs.length<xs.length:=Nat.mod_lt _ (by omega);have I:(a:Int).tmod (xs.length:Int)=((a%xs.length:Nat):Int):=(by rw [XB (by omega)];exact(Int.natCast_emod _ _).symm);refine aa (n:=55) (rs:=[.tmp 4]) rfl Tryz.e61 rfl rfl rfl (lbt rfl) ?_;simp only [BZ,s.lenq,t,H,F,S.ld (b:=d) (o:=0) m0 rfl,S.ld (b:=d) (o:=1) m0 rfl,seval];refine aw (aq S (i:=0) rfl ?_ ?_ ?_ ono) ?_
   . exact(by simp only [F0])
   . exact(by exact ca)
   . exact Xf (lbt rfl)
   clear S;rintro h ⟨S,J⟩;clear J;simp only [LC,ae,lay,Xb,Xc,seval]at S;have l:ay h 1 (encI .u8) g xs:=s.mo S.fr (fun b K e=>u (e▸K));obtain⟨c,o,m,w⟩:=l.ix (kd:=.i64) (aH _) k;have A:(xs.length:Int)≠0:=t;have B:(n:Int)≠0:=(by omega);simp only [BZ];refine av (ax rfl) (q:=0) (ps:=[]) (by kernel_rfl) ?_;simp only [BZ,bV,aA,cj,cls,ab,l.lenq,G,gJ A,lI A,gJ B,I,m,w,encI,S.ld (b:=d) (o:=0) m0 rfl,S.ld (b:=d) (o:=1) m0 rfl,seval];have p:(ag .i64 (ag .u8 (xs[a%xs.length]+ag .u8 (ag .i64 ((a:Int).tdiv (xs.length:Int)))))).tmod (n:Int)=((drV xs n a:Nat):Int)/\drV xs n a<n:=(by unfold drV;rw [dif_neg j];generalize xs[a%xs.length]+ag .u8 (ag .i64 ((a:Int).tdiv (xs.length:Int)))=z;have P:=wrap8 z;rw [wrap64 (by omega) (by omega),XB (by omega)];have Q:=Int.emod_nonneg (ag .u8 z) B;have R:=Int.emod_lt_of_pos (ag .u8 z) (show(0:Int)<n by omega);exact⟨by omega,by omega⟩);rw [p.1];exact⟨S.fr,_,a+1,rfl,p.2,X5 _,S.row m0,rfl⟩
theorem iM{b:Hp}(j:b.t.Sized b.n){c a n:Nat}{g:Value}{xs:List Int}(k:Row b c [g,.int .i64 a] 1)(l:pB b c g xs a)(m:1<=n)(h:n<1000):
 Ret zB 61 [ptrTo c,.int .i64 n] b fun v i=>Mo (· =c) b i/\ ∃r d:Nat,v=.int .i64 r/\r<n/\d<=a+1/\Row i c [g,.int .i64 d] 1:=
 (AL j k l m h).mono fun v i ⟨f,r,d,e,o,p,q,_⟩=>⟨f,r,d,e,o,p,q⟩
theorem pB.mo{h g:Hp}{c:Nat}{i:Value}{xs:List Int}{a j:Nat}(d:pB h c i xs a)(f:Mo (· =c) h g)(k:j<100000):pB g c i xs j:=
 ⟨d.sl.mo f (fun b l e=>d.ne (e▸l)),d.ne,d.few,k⟩
theorem pB.gr{h b:Hp}{c:Nat}{e:Value}{xs:List Int}{a:Nat}(d:pB h c e xs a)(g:Gr h b):pB b c e xs a:=⟨d.sl.gr g,d.ne,d.few,d.at_⟩
theorem yT{d:Hp}(z:d.t.Sized d.n){e a:Nat}{g:Value}{xs:List Int}(A:Row d e [g,.int .i64 a] 1)(t:pB d e g xs a)(E:a+2<100000):
 Ret zB 62 [ptrTo e] d fun v u=>Mo (· =e) d u/\ ∃r w:Nat,v=.int .i64 r/\r<=2147483647/\w<=a+2/\Row u e [g,.int .i64 w] 1:=by
 have S:=St.init1 z (o:=.row [g,.int .i64 a] 1) A;refine aa (n:=24) (rs:=[.tmp 2]) rfl Tryz.e62 rfl rfl rfl (lbt rfl) ?_;simp only [BZ,seval];refine step_ret (iM (n:=12) S.ok (S.row m0) t (by omega) (by omega)) ?_;rintro v h ⟨f,r,x,rfl,B,C,D⟩;replace S:=S.call1 (i:=0) rfl f (o':=.row _ _) D;have c:pB h e g xs x:=t.mo f (by omega);simp only [LC]at S;by_cases q:(r:Int)<3
 . simp only [BZ,ab,q,seval];exact⟨S.fr,0,x,rfl,by omega,by omega,S.row m0⟩
 . by_cases s:(r:Int)<10
   . simp only [BZ,q,s,seval];refine step_ret (iM (n:=9) S.ok (S.row m0) c (by omega) (by omega)) ?_;rintro v h ⟨f,b,j,rfl,k,l,m⟩;replace S:=S.call1 (i:=0) rfl f (o':=.row _ _) m;simp only [LC]at S;have p:ag .i64 (1+(b:Int))=((1+b:Nat):Int):=(by rw [wrap64]<;>omega);simp only [BZ,ab,p,seval];exact⟨S.fr,1+b,j,rfl,by omega,by omega,S.row m0⟩
   . by_cases y:(r:Int)<11
     . simp only [BZ,q,s,y,seval];refine step_ret (iM (n:=20) S.ok (S.row m0) c (by omega) (by omega)) ?_;rintro v h ⟨f,b,j,rfl,k,l,m⟩;replace S:=S.call1 (i:=0) rfl f (o':=.row _ _) m;simp only [LC]at S;have p:ag .i64 (100*(b:Int))=((100*b:Nat):Int):=(by rw [wrap64]<;>omega);simp only [BZ,ab,p,seval];exact⟨S.fr,100*b,j,rfl,by omega,by omega,S.row m0⟩
     . simp only [BZ,q,s,y,seval];refine step_ret (iM (n:=2) S.ok (S.row m0) c (by omega) (by omega)) ?_;rintro v h ⟨f,b,j,rfl,k,l,m⟩;replace S:=S.call1 (i:=0) rfl f (o':=.row _ _) m;simp only [LC]at S;have p:ag .i64 (2147483647-(b:Int))=((2147483647-b:Nat):Int):=(by rw [wrap64]<;>omega);simp only [BZ,ab,p,seval];exact⟨S.fr,2147483647-b,j,rfl,by omega,by omega,S.row m0⟩
def ints(l:List Int):List Value:=l.flatMap (encI .i64)
theorem bQ(l:List Int):(ints l).length=l.length:=by unfold ints;rw [aI (k:=1) (fun _=>rfl)];omega
theorem gX(l m:List Int):ints (l++m)=ints l++ints m:=by unfold ints;rw [Xq]
theorem raw0_ok {J:Hp} (ok:J.t.Sized J.n) {B:Nat} {W:Value} {xs:List Int} (hr:Row J B [W,.int .i64 ((0:Nat):Int)] 1) (Q:pB J B W xs 0):
 Ret zB 20 [ptrTo B] J fun v h'=>Mo (· =B) J h'/\ ∃γ vx vy va,v=i7 γ vx vy va/\Good γ/\γ.nodes=1+drV xs 12 0/\dh h' vx vy va γ/\ ∀c,(ar vx c\/ar vy c\/ar va c)->J.n<=c:=by
 have S:=St.init1 ok (o:=.row [W,.int .i64 ((0:Nat):Int)] 1) hr;have b1:=hr.lt ok;refine aa (n:=117) (rs:=[.cell 2 37]) rfl Tryz.e20 rfl rfl rfl (lbt rfl) ?_;simp only [BZ];refine ac au S ?_;clear S;intro h M S bP;simp only [BZ,seval];refine step_ret (AL (n:=12) (a:=0) S.ok (S.row m1) (Q.mo S.fr (by omega)) (by omega) (by omega)) ?_;rintro v h ⟨f,r,a0,rfl,b4,b5,R,b6⟩;replace S:=S.call1 (i:=1) rfl f (o':=.row _ _) R;simp only [LC]at S;have w1:ag .i64 (1+(r:Int))=((1+r:Nat):Int):=by rw [wrap64]<;>omega
 simp only [BZ,w1,seval];refine ac au S ?_;clear S;intro h s S bT;simp only [BZ,seval];refine aw (S.store (i:=0) rfl ?_ ?_ rfl rfl ?_ ono) ?_
 . exact(by exact Tryz.t7.2.1)
 . exact(by intro x e;cases e)
 . exact lbt rfl
 clear S;rintro h ⟨S,O⟩;clear O;simp only [LC,ae,lay,Xb,Xc,seval]at S;simp only [BZ];replace S:=((S.nilG (k:=3)).nilG (k:=1)).nilG (k:=1);generalize hN:1+r=N at S;refine az (fun(i:Nat) g h=>i<=N/\ ∃(a:Nat) (D G:Value) (X Y:List Int),a<=1+2*i/\X.length=i/\Y.length=i/\(∀x∈X,-2147483648<=x/\x<=2147483647)/\(∀x∈Y,-2147483648<=x/\x<=2147483647)/\
  St (· =B) J h [(s,.row [.int .i64 N,D,G,.slice none 0 0] 1),(M,.row [.int .i64 0,.slice none 0 0,.slice none 0 0,.slice none 0 0] 1),(B,.row [W,.int .i64 a] 1)] [(D,1,ints X),(G,1,ints Y),(.slice none 0 0,3,[])]/\
  g 0=ptrTo B/\g 2=ptrTo M/\g 3=ptrTo s/\g 4=.int .i64 i) (fun i=>N-i) ?_ 0 _ _ ?_
 . clear S;intro i U g h ⟨hi,a,D,G,X,Y,ha,lX,lY,cX,cY,S,r,y,d,r4⟩;by_cases hlt:i<N
   . simp only [BZ,d,r4,an,hlt,S.ld (b:=s) (o:=0) m0 rfl,seval];refine av (ax rfl) (q:=32) (ps:=[(1,3)]) (by kernel_rfl) ?_;simp only [BZ,cls,r,d,S.ld (b:=s) (o:=1) m0 rfl,seval];refine cg (iM (n:=9) (a:=a) S.ok (S.row m2) (Q.mo S.fr (by omega)) (by omega) (by omega)) ?_;rintro v h ⟨f,r1,a1,rfl,b7,bn,R⟩;have hl:=S.leaves (c:=s) m0 f (by omega);replace S:=S.call1 (i:=2) rfl f (o':=.row _ _) R;simp only [LC]at S;have w9:ag .i64 ((r1:Int)-3)=(r1:Int)-3:=(by rw [wrap64]<;>omega);simp only [BZ,cls,w9,seval];refine ec (bg (by exact Tryz.t23.1) (by exact Tryz.e2E) (by decide) (by rfl)) S ?_;clear S;intro h Z S K af;simp only [LC,aU,bD,ae,Xi,Xh,Xn,Xr,seval]at S;simp only [BZ,cls,seval];refine jG (S.grow (j:=0) (m:=1) (new:=ints [(r1:Int)-3]) rfl Tryz.t23.1 Tryz.e2E (by decide) Tryz.t23.2.2.2.2.2 (by simp only [aC];rw [S.lds (b:=Z) (o:=0) (n:=1*1) m0 (lbt rfl)];rfl) rfl (by decide) rfl (by rw [bQ,bQ];simp;omega)) ?_;clear S;rintro h ba S;simp only [LC]at S;replace S:=S.drop1;rw [<-gX]at S;have fX:Fl ba:=(S.gown _ m0).1.fl;simp only [BZ,cls,d,seval];refine dN (aq S (i:=0) rfl ?_ ?_ ?_ ono) ?_
     . exact(by simp only [F0])
     . exact(by assumption)
     . exact Xf (lbt rfl)
     clear S;rintro h ⟨S,O⟩;clear O;simp only [LC,ae,lay,Xb,Xc,seval]at S;simp only [BZ,seval];refine⟨by simp only [aY,bj,aR,bo,aW,ne_eq,not_false_eq_true,bz,bK,aX,aV,bZ,cw,aS,Xx,d,al,aE hl,seval],?_⟩;refine av (ax rfl) (q:=16) (ps:=[(1,3)]) (by kernel_rfl) ?_;simp only [BZ,cls,r,d,S.ld (b:=s) (o:=2) m0 rfl,seval];clear f hl R;refine cg (iM (n:=7) (a:=a1) S.ok (S.row m2) (Q.mo S.fr (by omega)) (by omega) (by omega)) ?_;rintro v h ⟨f,H,a2,rfl,bp,bq,R⟩;have hl:=S.leaves (c:=s) m0 f (by omega);replace S:=S.call1 (i:=2) rfl f (o':=.row _ _) R;simp only [LC]at S;simp only [BZ,cls,seval];refine ec (bg (by exact Tryz.t23.1) (by exact Tryz.e2E) (by decide) (by rfl)) S ?_;clear S;intro h Z S K af;simp only [LC,aU,bD,ae,Xi,Xh,Xn,Xr,seval]at S;simp only [BZ,cls,seval];refine jG (S.grow (j:=1) (m:=1) (new:=ints [(H:Int)]) rfl Tryz.t23.1 Tryz.e2E (by decide) Tryz.t23.2.2.2.2.2 (by simp only [aC];rw [S.lds (b:=Z) (o:=0) (n:=1*1) m0 (lbt rfl)];rfl) rfl (by decide) rfl (by rw [bQ,bQ];simp;omega)) ?_;clear S;rintro h bb S;simp only [LC]at S;replace S:=S.drop1;rw [<-gX]at S;have fY:Fl bb:=(S.gown _ m1).1.fl;simp only [BZ,cls,d,seval];refine dN (aq S (i:=0) rfl ?_ ?_ ?_ ono) ?_
     . exact(by simp only [F0])
     . exact(by assumption)
     . exact Xf (lbt rfl)
     clear S;rintro h ⟨S,O⟩;clear O;simp only [LC,ae,lay,Xb,Xc,seval]at S;simp only [BZ,r4,seval];refine⟨by simp only [aY,bj,aR,bo,aW,ne_eq,not_false_eq_true,bz,bK,aX,aV,bZ,cw,aS,Xx,d,al,aE hl,seval],?_⟩;have w:ag .i64 ((i:Int)+1)=((i+1:Nat):Int):=(by rw [wrap64]<;>omega);simp only [w];exact U (i+1) _ _ (by omega) ⟨by omega,a2,ba,bb,_,_,by omega,by simp [lX],by simp [lY],
      fun x F=>(List.mem_append.1 F).elim (cX x) (fun h=>by simp at h;omega),fun x F=>(List.mem_append.1 F).elim (cY x) (fun h=>by simp at h;omega),S,by simp [am,r,al,y,d]⟩
   . have br : i=N:=(by omega);subst br;simp only [BZ,r,d,r4,an,hlt,S.ld (b:=s) (o:=0) m0 rfl,seval];refine step_ret (iM (n:=9) (a:=a) S.ok (S.row m2) (Q.mo S.fr (by omega)) (by omega) (by omega)) ?_;rintro v h ⟨f,H,a1,rfl,bp,bn,R⟩;replace S:=S.call1 (i:=2) rfl f (o':=.row _ _) R;simp only [LC]at S;simp only [BZ,seval];refine mO (fun g h=> ∃(X Y:List Int),X.length=i/\Y.length=i/\(∀x∈X,-2147483648<=x/\x<=2147483647)/\(∀x∈Y,-2147483648<=x/\x<=2147483647)/\
      St (· =B) J h [(s,.row [.int .i64 i,D,G,.slice none 0 0] 1),(M,.row [.int .i64 0,.slice none 0 0,.slice none 0 0,.slice none 0 0] 1),(B,.row [W,.int .i64 a1] 1)] [(D,1,ints X),(G,1,ints Y),(.slice none 0 0,3,[])]/\
      g 0=ptrTo B/\g 2=ptrTo M/\g 3=ptrTo s) ?_ ?_ ?_
     . intro _;obtain⟨bX,ix,bc⟩:=S.gset (E:=zB) (t:=2) (j:=0) (i:=0) (kd:=.i64) rfl (by rw [bQ];omega) Tryz.t2.2.2.1;have bt:iW (some 1) D (.int .i64 0)=_:=ix;simp only [BZ,d,bt,S.ld (b:=s) (o:=1) m0 rfl,seval];refine aw (bc _ ca) ?_;clear S bc;intro h S;simp only [LC]at S;obtain⟨bY,iy,be⟩:=S.gset (E:=zB) (t:=2) (j:=1) (i:=i-1) (kd:=.i64) rfl (by rw [bQ];omega) Tryz.t2.2.2.1;have w1:ag .i64 ((i:Int)-1)=((i-1:Nat):Int):=(by rw [wrap64]<;>omega);simp only [BZ,d,w1,iy,S.ld (b:=s) (o:=0) m0 rfl,S.ld (b:=s) (o:=2) m0 rfl,seval];refine aw (be _ ca) ?_;clear S be;intro h S;simp only [LC]at S;simp only [BZ];have ai: ∀(l:List Int) (j:Nat) (z:Int),(ints l).set j (.int .i64 z)=ints (l.set j z):=by
        intro l
        induction l with
        |nil=>intro j z;rfl| cons x l U=>
          intro j z;cases j with
          |zero=>rfl|succ j=>show _::_=_::_;exact congrArg _ (U j z)
       rw [ai,ai]at S;refine cL ⟨_,_,by simp [lX],by simp [lY],fun x F=>?_,fun x F=>?_,S,by simp [am,r,al,y,d]⟩
       . rcases mw F with rfl|⟨j,_,F⟩
         . omega
         . exact cX x (XK F)
       . rcases mw F with rfl|⟨j,_,F⟩
         . omega
         . exact cY x (XK F)
     . intro _;simp only [BZ];exact cL ⟨X,Y,lX,lY,cX,cY,S,by simp [am,r,al,y,d]⟩
     . clear S r y d r4 lX lY cX cY X Y f R;rintro g h ⟨X,Y,lX,lY,cX,cY,S,r,y,d⟩;have w3:ag .i64 (3*(i:Int))=((3*i:Nat):Int):=(by rw [wrap64]<;>omega);have w4:ag .i64 (((3*i:Nat):Int)+1)=((3*i+1:Nat):Int):=(by rw [wrap64]<;>omega);simp only [BZ,r,d,w3,w4,S.ld (b:=s) (o:=0) m0 rfl,seval];refine step_ret (iM (n:=3*i+1) (a:=a1) S.ok (S.row m2) (Q.mo S.fr (by omega)) (by omega) (by omega)) ?_;rintro v h ⟨f,C,a2,rfl,bu,bq,R⟩;replace S:=S.call1 (i:=2) rfl f (o':=.row _ _) R;simp only [LC]at S;simp only [BZ,r,seval];refine step_ret (iM (n:=3) (a:=a2) S.ok (S.row m2) (Q.mo S.fr (by omega)) (by omega) (by omega)) ?_;rintro v h ⟨f,rr,a3,rfl,b8,cb,R⟩;replace S:=S.call1 (i:=2) rfl f (o':=.row _ _) R;simp only [LC]at S;simp only [BZ,seval];generalize decide ((0:Int)<(rr:Int))=ring;refine nL (fun g h=> ∃(a:Nat) (u:Value) (A:List Arc),a<=a3+2*i/\A.length<=i/\(∀x∈A,x.s<i/\x.t<i/\x.w<=2147483647)/\
        St (· =B) J h [(s,.row [.int .i64 i,D,G,u] 1),(M,.row [.int .i64 0,.slice none 0 0,.slice none 0 0,.slice none 0 0] 1),(B,.row [W,.int .i64 a] 1)] [(D,1,ints X),(G,1,ints Y),(u,3,A.flatMap cE)]/\
        g 0=ptrTo B/\g 2=ptrTo M/\g 3=ptrTo s/\g 5=.int .i64 C)
        (fun(j:Nat) g h=>j<=i/\ ∃(a:Nat) (u:Value) (A:List Arc),a<=a3+2*j/\A.length<=j/\(∀x∈A,x.s<i/\x.t<i/\x.w<=2147483647)/\
        St (· =B) J h [(s,.row [.int .i64 i,D,G,u] 1),(M,.row [.int .i64 0,.slice none 0 0,.slice none 0 0,.slice none 0 0] 1),(B,.row [W,.int .i64 a] 1)] [(D,1,ints X),(G,1,ints Y),(u,3,A.flatMap cE)]/\
        g 0=ptrTo B/\g 2=ptrTo M/\g 3=ptrTo s/\g 5=.int .i64 C/\g 6=.bool ring/\g 7=.int .i64 j) (fun j=>i-j) ?_ ?_ 0 ⟨by omega,a3,_,[],by omega,by simp,by simp,S,by simp [am,r,al,y,d]⟩
       . clear S r y d f R U;intro j U g h ⟨hj,a,u,A,ha,lA,P,S,r,y,d,H,r6,r7⟩;have L:(A.flatMap cE).length=A.length*3:=aI ez A;by_cases hlt:j<i/\ring=true
         . obtain⟨hlt,I⟩:=hlt;subst I;have w1:ag .i64 ((j:Int)+1)=((j+1:Nat):Int):=(by rw [wrap64]<;>omega);have ci:(i:Int)≠0:=(by omega);have tm:((j+1:Nat):Int).tmod (i:Int)=(((j+1)%i:Nat):Int):=(by rw [XB (by omega)];exact(Int.natCast_emod _ _).symm);simp only [BZ,d,r6,r7,an,hlt,S.ld (b:=s) (o:=0) m0 rfl,seval];refine av (ax rfl) (q:=2048) (ps:=[(6,9),(1,9)]) (by kernel_rfl) ?_;simp only [BZ,cls,r,d,r7,w1,gJ ci,tm,S.ld (b:=s) (o:=0) m0 rfl,S.ld (b:=s) (o:=3) m0 rfl,seval];refine cg (yT (a:=a) S.ok (S.row m2) (Q.mo S.fr (by omega)) (by omega)) ?_;rintro v h ⟨f,V,a4,rfl,ad,bv,R⟩;have hl:=S.leaves (c:=s) m0 f (by omega);replace S:=S.call1 (i:=2) rfl f (o':=.row _ _) R;simp only [LC]at S;simp only [BZ,cls,seval];refine ec (bg (by exact Tryz.t35.1) (by exact Tryz.e90E) (by decide) (by rfl)) S ?_;clear S;intro h Z S K af;simp only [LC,aU,bD,ae,Xi,Xh,Xn,Xr,seval]at S;simp only [BZ,cls,seval];refine jG (S.grow (j:=2) (m:=1) (new:=cE ⟨j,(j+1)%i,V⟩) rfl Tryz.t35.1 Tryz.e90E (by decide) Tryz.t35.2.2.2.2.2 (by simp only [aC];rw [S.lds (b:=Z) (o:=0) (n:=1*3) m0 (lbt rfl)];rfl) rfl (by decide) rfl (by rw [L,ez];omega)) ?_;clear S;rintro h T S;simp only [LC]at S;replace S:=S.drop1;have fA:Fl T:=(S.gown _ m2).1.fl;simp only [BZ,cls,d,seval];refine dN (aq S (i:=0) rfl ?_ ?_ ?_ ono) ?_
           . exact(by simp only [F0])
           . exact(by assumption)
           . exact Xf (lbt rfl)
           clear S;rintro h ⟨S,O⟩;clear O;simp only [LC,ae,lay,Xb,Xc,seval]at S;simp only [BZ,r7,seval];refine⟨by simp only [aY,bj,aR,bo,aW,ne_eq,not_false_eq_true,bz,bK,aX,aV,bZ,cw,aS,Xx,d,al,aE hl,seval],?_⟩;simp only [w1];have bf:(j+1)%i<i:=Nat.mod_lt _ (by omega);exact U (j+1) _ _ (by omega) ⟨by omega,a4,T,A++[⟨j,(j+1)%i,V⟩],by omega,by simp;omega,
            fun x F=>(List.mem_append.1 F).elim (P x) (fun h=>by simp at h;subst h;exact⟨hlt,bf,ad⟩),by rw [Xq];simpa using S,by simp [am,r,al,y,d,H,r6]⟩
         . by_cases ak:j<i
           . have I:ring=false:=by cases ring with
              |false=>rfl|true=>exact absurd ⟨ak,rfl⟩ hlt
             subst I;simp only [BZ,d,r6,r7,an,ak,S.ld (b:=s) (o:=0) m0 rfl,seval];exact cL ⟨a,u,A,by omega,by omega,P,S,by simp [am,r,al,y,d,H]⟩
           . simp only [BZ,d,r7,an,ak,S.ld (b:=s) (o:=0) m0 rfl,seval];exact cL ⟨a,u,A,by omega,by omega,P,S,by simp [am,r,al,y,d,H]⟩
       . clear S r y d f R U;rintro g h ⟨a,u,A,ha,lA,P,S,r,y,d,H⟩;simp only [BZ];refine nL (fun g h=> ∃(a:Nat) (u:Value) (A:List Arc),A.length<=100/\(∀x∈A,x.s<i/\x.t<i/\x.w<=2147483647)/\
          St (· =B) J h [(s,.row [.int .i64 i,D,G,u] 1),(M,.row [.int .i64 0,.slice none 0 0,.slice none 0 0,.slice none 0 0] 1),(B,.row [W,.int .i64 a] 1)] [(D,1,ints X),(G,1,ints Y),(u,3,A.flatMap cE)]/\
          g 0=ptrTo B/\g 2=ptrTo M/\g 3=ptrTo s)
          (fun(k:Nat) g h=>k<=C/\ ∃(a:Nat) (u:Value) (A:List Arc),a<=a3+2*i+6*k/\A.length<=i+2*k/\(∀x∈A,x.s<i/\x.t<i/\x.w<=2147483647)/\
          St (· =B) J h [(s,.row [.int .i64 i,D,G,u] 1),(M,.row [.int .i64 0,.slice none 0 0,.slice none 0 0,.slice none 0 0] 1),(B,.row [W,.int .i64 a] 1)] [(D,1,ints X),(G,1,ints Y),(u,3,A.flatMap cE)]/\
          g 0=ptrTo B/\g 2=ptrTo M/\g 3=ptrTo s/\g 5=.int .i64 C/\g 8=.int .i64 k) (fun k=>C-k) ?_ ?_ 0 ⟨by omega,a,u,A,by omega,by omega,P,S,by simp [am,r,al,y,d,H]⟩
         . clear S r y d H ha lA P a u A;intro k U g h ⟨hk,a,u,A,ha,lA,P,S,r,y,d,H,r8⟩;have L:(A.flatMap cE).length=A.length*3:=aI ez A;by_cases hlt:k<C
           . simp only [BZ,H,r8,an,hlt,seval];refine av (zw (ord:=[11,0,1,2,3,4,5,6,7,8,9,10,12]) rfl rfl (by simp only [fk,reix,gG,List.getElem?_cons_zero,List.getElem?_cons_succ,List.map_toArray,XF,List.map_nil,cond_true,cond_false,seval];exact rfl)) (q:=1) (ps:=[(0,10),(0,8),(4,7),(0,4)]) (by kernel_rfl) ?_;simp only [BZ,cls,seval];refine ec au S ?_;clear S;intro h b9 S b0 bh;simp only [BZ,cls,r,d,S.ld (b:=s) (o:=0) m1 rfl,seval];refine cg (iM (n:=i) (a:=a) S.ok (S.row m3) (Q.mo S.fr (by omega)) (by omega) (by omega)) ?_;rintro v h ⟨f,s1,a4,rfl,bi,bv,R⟩;have bw:=S.leaves (c:=b9) m0 f (by omega);have bx:=S.leaves (c:=s) m1 f (by omega);replace S:=S.call1 (i:=3) rfl f (o':=.row _ _) R;simp only [LC]at S;simp only [BZ,cls,r,d,S.ld (b:=s) (o:=0) m1 rfl,seval];refine cg (iM (n:=i) (a:=a4) S.ok (S.row m3) (Q.mo S.fr (by omega)) (by omega) (by omega)) ?_;rintro v h ⟨f,s2,a5,rfl,bk,cc,R⟩;have bB:=S.leaves (c:=b9) m0 f (by omega);have bI:=S.leaves (c:=s) m1 f (by omega);replace S:=S.call1 (i:=3) rfl f (o':=.row _ _) R;simp only [LC]at S;simp only [BZ,cls,r,seval];refine cg (yT (a:=a5) S.ok (S.row m3) (Q.mo S.fr (by omega)) (by omega)) ?_;rintro v h ⟨f,V,a6,rfl,ad,cf,R⟩;have bL:=S.leaves (c:=b9) m0 f (by omega);replace S:=S.call1 (i:=3) rfl f (o':=.row _ _) R;simp only [LC]at S;simp only [BZ,cls,seval];refine dN (S.store (i:=0) rfl ?_ ?_ rfl rfl ?_ ono) ?_
             . exact(by exact Tryz.t90.2.1)
             . exact(by intro x e;cases e)
             . exact lbt rfl
             clear S;rintro h ⟨S,O⟩;clear O;simp only [LC,ae,lay,Xb,Xc,seval]at S;simp only [BZ,d,seval];refine⟨by simp only [aY,bj,aR,bo,aW,ne_eq,not_false_eq_true,bz,bK,aX,aV,bZ,cw,aS,Xx,d,al,<-bh,aE bw,aE bB,aE bI,aE bL,aT bx,seval],?_⟩;simp only [BZ,S.ld (b:=s) (o:=3) m1 rfl,S.lds (b:=b9) (o:=0) (n:=3) m0 (lbt rfl),seval];refine ac (bg (by exact Tryz.t35.1) (by exact Tryz.e90E) (by decide) (by rfl)) S ?_;clear S;intro h Z S K;simp only [LC,aU,bD,ae,Xi,Xh,Xn,Xr,seval]at S;simp only [BZ,seval];refine dX (S.grow (j:=2) (m:=1) (new:=cE ⟨s1,s2,V⟩) rfl Tryz.t35.1 Tryz.e90E (by decide) Tryz.t35.2.2.2.2.2 (by simp only [aC];rw [S.lds (b:=Z) (o:=0) (n:=1*3) m0 (lbt rfl)];rfl) rfl (by decide) rfl (by rw [L,ez];omega)) ?_;clear S;rintro h T S;simp only [LC]at S;replace S:=S.drop1;have fA:Fl T:=(S.gown _ m2).1.fl;simp only [BZ,d,seval];refine aw (aq S (i:=1) rfl ?_ ?_ ?_ ono) ?_
             . exact(by simp only [F0])
             . exact(by assumption)
             . exact Xf (lbt rfl)
             clear S;rintro h ⟨S,O⟩;clear O;simp only [LC,ae,lay,Xb,Xc,seval]at S;simp only [BZ,r,seval];refine step_ret (iM (n:=4) (a:=a6) S.ok (S.row m3) (Q.mo S.fr (by omega)) (by omega) (by omega)) ?_;rintro v h ⟨f,r9,a7,rfl,ch,cl,R⟩;replace S:=S.call1 (i:=3) rfl f (o':=.row _ _) R;simp only [LC]at S;have w8:ag .i64 ((k:Int)+1)=((k+1:Nat):Int):=(by rw [wrap64]<;>omega);have aL:(A.flatMap cE++cE ⟨s1,s2,V⟩).length=A.length*3+3:=(by rw [zO,L,ez]);have bl: ∀x∈A++[(⟨s1,s2,V⟩:Arc)],x.s<i/\x.t<i/\x.w<=2147483647:=fun x F=>(List.mem_append.1 F).elim (P x) (fun h=>by simp at h;subst h;exact⟨bi,bk,ad⟩);by_cases hz:(r9:Int)=0
             . simp only [BZ,d,hz,S.ld (b:=s) (o:=3) m1 rfl,S.ld (b:=b9) (o:=0) m0 rfl,S.ld (b:=b9) (o:=1) m0 rfl,S.ld (b:=b9) (o:=2) m0 rfl,seval];refine ac (bg (by exact Tryz.t35.1) (by exact Tryz.e90E) (by decide) (by rfl)) S ?_;clear S;intro h Z S K;simp only [LC,aU,bD,ae,Xi,Xh,Xn,Xr,seval]at S;simp only [BZ,seval];refine dX (S.grow (j:=2) (m:=1) (new:=cE ⟨s2,s1,V⟩) rfl Tryz.t35.1 Tryz.e90E (by decide) Tryz.t35.2.2.2.2.2 (by simp only [aC];rw [S.lds (b:=Z) (o:=0) (n:=1*3) m0 (lbt rfl)];rfl) rfl (by decide) rfl (by rw [aL,ez];omega)) ?_;clear S;rintro h bm S;simp only [LC]at S;replace S:=S.drop1;have fA:Fl bm:=(S.gown _ m2).1.fl;simp only [BZ,d,seval];refine aw (aq S (i:=1) rfl ?_ ?_ ?_ ono) ?_
               . exact(by simp only [F0])
               . exact(by assumption)
               . exact Xf (lbt rfl)
               clear S;rintro h ⟨S,O⟩;clear O;simp only [LC,ae,lay,Xb,Xc,seval]at S;simp only [BZ,r8,w8,seval];replace S:=S.drop1;exact U (k+1) _ _ (by omega) ⟨by omega,a7,bm,A++[⟨s1,s2,V⟩]++[⟨s2,s1,V⟩],by omega,by simp;omega,
                fun x F=>(List.mem_append.1 F).elim (bl x) (fun h=>by simp at h;subst h;exact⟨bk,bi,ad⟩),by rw [Xq,Xq];simpa using S,by simp [am,r,al,y,d,H]⟩
             . simp only [BZ,r8,hz,w8,seval];replace S:=S.drop1;exact U (k+1) _ _ (by omega) ⟨by omega,a7,T,A++[⟨s1,s2,V⟩],by omega,by simp;omega,
                bl,by rw [Xq];simpa using S,by simp [am,r,al,y,d,H]⟩
           . simp only [BZ,H,r8,an,hlt,seval];exact cL ⟨a,u,A,by omega,P,S,by simp [am,r,al,y,d]⟩
         . clear S r y d H ha lA P a u A;rintro g h ⟨a,u,A,lA,P,S,r,y,d⟩;simp only [BZ,y,d,S.lds (b:=s) (o:=0) (n:=4) m0 (lbt rfl),seval];have fX:Fl D:=(S.gown _ m0).1.fl;have fY:Fl G:=(S.gown _ m1).1.fl;have fA:Fl u:=(S.gown _ m2).1.fl;refine aw (S.store (i:=1) rfl Tryz.t37.2.1 (by intro x e;cases e) rfl (by simp only [ae,Xb,Xc,List.all_cons,List.all_nil,fX.2.1,fY.2.1,fA.2.1,Xx];rfl) (lbt rfl) ono) ?_;clear S;rintro h ⟨S,_⟩;simp only [LC,ae,lay,Xb,Xc,seval]at S;simp only [BZ,ab];refine⟨_,uz (by decide) (by simp only [aS,y,al,seval];exact gD Tryz.t37.1 Tryz.t37.2.1 (S.lds (b:=M) (o:=0) (n:=4) m1 (lbt rfl))),?_⟩;have a8: ∀p∈[(D,1,ints X),(G,1,ints Y),(u,3,A.flatMap cE)],∀c,ar p.1 c->J.n<=c:=by
            intro p hp c hc;obtain⟨h1,h2⟩:=S.gblk hp hc;rcases h1 with h1|h1
            . exact h1
            . exact absurd (by simp [h1]) h2
           refine⟨S.fr,⟨i,X,Y,A⟩,D,G,u,rfl,⟨show 1<=i by omega,show i<=12 by omega,lX,lY,cX,cY,lA,P⟩,show i=_ by omega,⟨(S.gown _ m0).1.sl rfl (fun _=>rfl) (by decide),(S.gown _ m1).1.sl rfl (fun _=>rfl) (by decide),(S.gown _ m2).1.sl rfl (fun _=>rfl) (by decide)⟩,?_⟩;rintro c (hc|hc|hc)
           . exact a8 _ m0 c hc
           . exact a8 _ m1 c hc
           . exact a8 _ m2 c hc
 . exact⟨by omega,a0,_,_,[],[],by omega,rfl,rfl,by simp,by simp,S,by simp [am,dy,al]⟩
theorem raw_ok{e:Hp}(n:e.t.Sized e.n){k:Nat}{m:Value}{xs:List Int}(o:Row e k [m,.int .i64 ((0:Nat):Int)] 1)(p:pB e k m xs 0):
 Ret zB 20 [ptrTo k] e fun v l=>Mo (· =k) e l/\ ∃g h i j,v=i7 g h i j/\Good g/\dh l h i j g/\ ∀c,(ar h c\/ar i c\/ar j c)->e.n<=c:=
 (raw0_ok n o p).mono fun v l ⟨f,g,h,i,j,a,b,_,c,d⟩=>⟨f,g,h,i,j,a,b,c,d⟩
theorem aP{h a:Hp}{b:Nat}(g:Gr h a)(c:b<h.n):leaves h a b=true:=gy (g.get b c)
theorem own_ok{p:Hp}(U:p.t.Sized p.n){w:Gra}(k:fI w){r s l:Value}(H:dh p r s l w):
 Ret zB 66 [i7 w r s l] p fun v F=>Gr p F/\ ∃r s l,v=i7 w r s l/\dh F r s l w/\(∀c,ar r c\/ar s c\/ar l c->p.n<=c)/\WrK F 3 cE l w.arcs/\ ∀c,ar l c-> ¬ar r c/\ ¬ar s c:=by
 have S:=Si U;have lX:=k.lX;have lY:=k.lY;have n2:=k.n2;have O:=k.many;refine aa (n:=16) (rs:=[.cell 2 37]) rfl Tryz.e66 rfl rfl rfl (lbt rfl) ?_;simp only [BZ,i7,seval];refine ac (bR (by intro x e;cases e)) S ?_;clear S;intro h b S V;simp only [ae]at S;simp only [BZ];refine ac au S ?_;clear S;intro h t S P;simp only [BZ];refine av (ax rfl) (q:=0) (ps:=[(5,7),(2,7),(2,4)]) (by kernel_rfl) ?_;simp only [BZ,cls,S.ld (b:=b) (o:=1) m1 rfl,seval];refine cg (sF S.ok (H.X.gr S.gr) (by omega)) ?_;have W:=S.fr.n;rintro A h ⟨g,f,I⟩;have Q:=aP g ((S.row (b:=b) m1).lt S.ok);have J: ∀c,ar A c-> ¬c=b:=fun c d e=>by have:=I c d;have:=(S.row (b:=b) m1).lt S.ok;omega
 have K: ∀c,ar A c-> ¬c=t:=fun c d e=>by have:=I c d;have:=(S.row (b:=t) m0).lt S.ok;omega
 replace S:=S.call g;simp only [BZ,cls,S.ld (b:=b) (o:=2) m1 rfl,seval];refine cg (sF S.ok (H.Y.gr S.gr) (by omega)) ?_;have X:=S.fr.n;rintro B h ⟨g,j,L⟩;have R:=aP g ((S.row (b:=b) m1).lt S.ok);have M: ∀c,ar B c-> ¬c=b:=fun c d e=>by have:=L c d;have:=(S.row (b:=b) m1).lt S.ok;omega
 have N: ∀c,ar B c-> ¬c=t:=fun c d e=>by have:=L c d;have:=(S.row (b:=t) m0).lt S.ok;omega
 replace S:=S.call g;replace f:=f.gr g;simp only [BZ,cls,S.ld (b:=b) (o:=3) m1 rfl,seval];refine cg (BX S.ok (H.A.gr S.gr) (by omega)) ?_;have Y:=S.fr.n;rintro C h ⟨g,m,D,u⟩;have Z: ∀c,ar C c-> ¬ar A c/\ ¬ar B c:=fun c d=>⟨fun h=>by have:=D c d;have:=f.lt S.ok h;omega,fun h=>by have:=D c d;have:=j.lt S.ok h;omega⟩;have T:=aP g ((S.row (b:=b) m1).lt S.ok);have y: ∀c,ar C c-> ¬c=b:=fun c d e=>by have:=D c d;have:=(S.row (b:=b) m1).lt S.ok;omega
 have E: ∀c,ar C c-> ¬c=t:=fun c d e=>by have:=D c d;have:=(S.row (b:=t) m0).lt S.ok;omega
 replace S:=S.call g;replace f:=f.gr g;replace j:=j.gr g;have z: ∀c,ar A c\/ar B c\/ar C c->p.n<=c:=fun c d=>by
  rcases d with h|h|h
  . exact XD W (I c h)
  . exact XD X (L c h)
  . exact XD Y (D c h)
 have f1:=f.fl;have f2:=j.fl;have f3:=m.fl;simp only [BZ,cls,seval];refine dN (aq S (i:=1) rfl ?_ ?_ ?_ ono) ?_
 . exact(by simp only [F0])
 . exact(by assumption)
 . exact Xf (lbt rfl)
 clear S;rintro h ⟨S,a⟩;replace f:=f.mo a J;replace j:=j.mo a M;replace m:=m.mo a y;replace u:=u.mo a y;clear a;simp only [LC,ae,lay,Xb,Xc,seval]at S;simp only [BZ,cls,seval];refine dN (aq S (i:=1) rfl ?_ ?_ ?_ ono) ?_
 . exact(by simp only [F0])
 . exact(by assumption)
 . exact Xf (lbt rfl)
 clear S;rintro h ⟨S,a⟩;replace f:=f.mo a J;replace j:=j.mo a M;replace m:=m.mo a y;replace u:=u.mo a y;clear a;simp only [LC,ae,lay,Xb,Xc,seval]at S;simp only [BZ,cls,seval];refine dN (aq S (i:=1) rfl ?_ ?_ ?_ ono) ?_
 . exact(by simp only [F0])
 . exact(by assumption)
 . exact Xf (lbt rfl)
 clear S;rintro h ⟨S,a⟩;replace f:=f.mo a J;replace j:=j.mo a M;replace m:=m.mo a y;replace u:=u.mo a y;clear a;simp only [LC,ae,lay,Xb,Xc,seval]at S;simp only [BZ,seval];refine⟨by simp only [aY,bj,aR,bo,aW,ne_eq,not_false_eq_true,bz,bK,aX,aV,bZ,cw,aS,Xx,cq,al,aE Q,aE R,aE T,aT Q,aT R,aT T,seval],?_⟩;simp only [BZ,S.lds (b:=b) (o:=0) (n:=4) m1 (lbt rfl),seval];refine aw (S.store (i:=0) rfl Tryz.t37.2.1 (by intro x e;cases e) rfl (by simp only [ae,Xb,Xc,List.all_cons,List.all_nil,f1.2.1,f2.2.1,f3.2.1,Xx];rfl) (lbt rfl) ono) ?_;clear S;rintro F ⟨S,G⟩;simp only [LC,ae,lay,Xb,Xc,seval]at S;simp only [BZ,ab];refine⟨_,uz (by decide) (by simp only [aS,al,seval];exact gD Tryz.t37.1 Tryz.t37.2.1 (S.lds (b:=t) (o:=0) (n:=4) m0 (lbt rfl))),?_⟩;exact⟨S.gr,A,B,C,rfl,⟨f.mo G K,j.mo G N,m.mo G E⟩,z,u.mo G E,Z⟩
end Go.Ab
end

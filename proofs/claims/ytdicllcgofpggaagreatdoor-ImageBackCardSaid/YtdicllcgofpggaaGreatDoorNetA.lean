/- Nets, cells, flags: what the functions do (part 1). -/
import Derived.Test.YtdicllcgofpggaaGreatDoorEnv
open Go.Ab.Tryz
open Go.Ab.Tryz renaming abEnv->zB
open And renaming intro->zM
open List renaming drop_left'->zO,take->Xa,drop->Xb,length_append->Xd,take_left'->Xe,getD_eq_getElem?_getD->Xh,range->Xi,getElem?_map->Xl,flatMap_append->Xm,getElem?_append_right->Xo,getElem?_append_left->Xp,append_assoc->Xq,flatMap_cons->Xr,length_cons->Xs,drop_drop->Xu,getElem?_eq_getElem->Xv,length_flatMap->XB,take_of_length_le->XD,map_const'->XH,mem_of_getElem?->XI,take_succ_cons->XJ,drop_zero->XK,map_cons->XM,ext_getElem?->XN,getElem_mem->XQ,range_succ->XS,take_zero->XU,drop_succ_cons->XV
open Nat renaming lt_of_succ_le->Xc,zero_add->Xf,zero_mul->Xg,mul_one->Xk,one_mul->Xn,shiftRight_eq_div_pow->Xt,xor_lt_two_pow->Xx,ble_eq_true_of_le->Xz,le_trans->XC,mod_eq_of_lt->XE,pow_succ->XF,mod_two_eq_zero_or_one->XL,blt_eq->XO,mul_comm->XP,blt->XT,xor_zero->XW,le_refl->XY
open Int renaming cast_ofNat_Int->Xj,tmod_eq_emod_of_nonneg->XA
open Bool renaming and_true->Xw
open Prod renaming snd->Xy
open Option renaming map_some->XG,getD_some->XR,isSome_none->XX
set_option maxHeartbeats 4000000
set_option linter.defProp false
set_option linter.unusedVariables false
set_option linter.unusedSimpArgs false
section
namespace Go.Ab
theorem Si{h:Hp}(a:h.t.Sized h.n):St NoM h h [] []:=St.init a
theorem aj{a b:Prop}(x:a)(y:b):a/\b:=⟨x,y⟩
set_option linter.defProp false in
def LC:=zM @List.set_cons_zero.{0}<|zM @List.set_cons_succ.{0}<|zM @List.cons_append.{0}<|zM @List.nil_append.{0}<|zM @List.append_nil.{0}<|zM @List.length_cons.{0}<|zM @List.length_nil.{0}<|@Nat.add_zero
theorem lbt{a b:Nat}(h:Nat.ble a b=true):a<=b:=Nat.le_of_ble_eq_true h
theorem ono:(1:Nat)≠0:=Nat.one_ne_zero
set_option linter.defProp false in
def LB:=zM @if_true.{1}<|zM @if_false.{1}<|zM @eq_self.{1}<|zM @List.map_cons.{0,0}<|zM @List.map_nil.{0,0}<|zM @List.append_nil.{0}<|zM @List.nil_append.{0}<|zM @List.cons_append.{0}<|zM @List.getElem?_cons_zero.{0}<|zM @List.getElem?_cons_succ.{0}<|zM @List.set_cons_zero.{0}<|zM @List.set_cons_succ.{0}<|zM @List.length_cons.{0}<|zM @List.length_nil.{0}<|zM @Nat.add_zero<|zM @Nat.zero_add<|zM @Nat.mul_one<|zM @Nat.zero_mul<|zM @cond_true.{1}<|zM @cond_false.{1}<|zM @decide_true<|zM @decide_false<|zM @Bool.and_true<|zM @Bool.and_false<|zM @Bool.not_false<|zM @Bool.not_true<|zM @true_and<|zM @and_true<|zM @Option.isSome_some.{0}<|@List.map_toArray.{0,0}
open Go.Proofs
namespace Tryz
abbrev TQ0(i:TypeId)(A:Bool)(S:Nat)(Z:List Value):Prop:=abEnv.agg i=some A/\abEnv.sz i=some S/\abEnv.zero i=some Z/\dR zB i=some false
theorem kTQ0{i:TypeId}{A:Bool}{S:Nat}{Z:List Value}(h:(abEnv.agg i,abEnv.sz i,abEnv.zero i,dR zB i)=(some A,some S,some Z,some false)):TQ0 i A S Z:=by simpa only [Prod.mk.injEq]using h
abbrev TQ1(i:TypeId)(U:TypeDesc)(A:Bool)(S:Nat)(Z:List Value):Prop:=abEnv.und i=some U/\abEnv.agg i=some A/\abEnv.sz i=some S/\abEnv.zero i=some Z/\kL zB i=true
theorem kTQ1{i:TypeId}{U:TypeDesc}{A:Bool}{S:Nat}{Z:List Value}(h:(abEnv.und i,abEnv.agg i,abEnv.sz i,abEnv.zero i,kL zB i)=(some U,some A,some S,some Z,true)):TQ1 i U A S Z:=by simpa only [Prod.mk.injEq]using h
abbrev TQ2(i:TypeId)(U:TypeDesc)(A:Bool)(S:Nat)(Z:List Value):Prop:=abEnv.und i=some U/\abEnv.agg i=some A/\abEnv.sz i=some S/\abEnv.zero i=some Z/\dR zB i=some false
theorem kTQ2{i:TypeId}{U:TypeDesc}{A:Bool}{S:Nat}{Z:List Value}(h:(abEnv.und i,abEnv.agg i,abEnv.sz i,abEnv.zero i,dR zB i)=(some U,some A,some S,some Z,some false)):TQ2 i U A S Z:=by simpa only [Prod.mk.injEq]using h
abbrev TQ3(i:TypeId)(A:Bool)(S:Nat)(Z:List Value)(P:List (Nat×Nat)):Prop:=abEnv.agg i=some A/\abEnv.sz i=some S/\abEnv.zero i=some Z/\kL zB i=true/\dR zB i=some false/\placesOf zB i=some P
theorem kTQ3{i:TypeId}{A:Bool}{S:Nat}{Z:List Value}{P:List (Nat×Nat)}(h:(abEnv.agg i,abEnv.sz i,abEnv.zero i,kL zB i,dR zB i,placesOf zB i)=(some A,some S,some Z,true,some false,some P)):TQ3 i A S Z P:=by simpa only [Prod.mk.injEq]using h
abbrev TQ4(i:TypeId)(U:TypeDesc)(A:Bool)(S:Nat)(Z:List Value):Prop:=abEnv.und i=some U/\abEnv.agg i=some A/\abEnv.sz i=some S/\abEnv.zero i=some Z/\isSl zB i=true/\dR zB i=some false
theorem kTQ4{i:TypeId}{U:TypeDesc}{A:Bool}{S:Nat}{Z:List Value}(h:(abEnv.und i,abEnv.agg i,abEnv.sz i,abEnv.zero i,isSl zB i,dR zB i)=(some U,some A,some S,some Z,true,some false)):TQ4 i U A S Z:=by simpa only [Prod.mk.injEq]using h
abbrev TQ5(i:TypeId)(U:TypeDesc)(A:Bool)(S:Nat)(Z:List Value):Prop:=abEnv.und i=some U/\abEnv.agg i=some A/\abEnv.sz i=some S/\abEnv.zero i=some Z/\n8 zB i=true/\kL zB i=true/\dR zB i=some false
theorem kTQ5{i:TypeId}{U:TypeDesc}{A:Bool}{S:Nat}{Z:List Value}(h:(abEnv.und i,abEnv.agg i,abEnv.sz i,abEnv.zero i,n8 zB i,kL zB i,dR zB i)=(some U,some A,some S,some Z,true,true,some false)):TQ5 i U A S Z:=by simpa only [Prod.mk.injEq]using h
abbrev TQ6(i:TypeId)(A:Bool)(S:Nat)(Z:List Value):Prop:=abEnv.agg i=some A/\abEnv.sz i=some S/\abEnv.zero i=some Z/\isIface zB i=true/\dR zB i=some false
theorem kTQ6{i:TypeId}{A:Bool}{S:Nat}{Z:List Value}(h:(abEnv.agg i,abEnv.sz i,abEnv.zero i,isIface zB i,dR zB i)=(some A,some S,some Z,true,some false)):TQ6 i A S Z:=by simpa only [Prod.mk.injEq]using h
abbrev TQ7(i:TypeId)(A:Bool)(S:Nat)(Z:List Value):Prop:=abEnv.agg i=some A/\abEnv.sz i=some S/\abEnv.zero i=some Z/\kL zB i=true/\dR zB i=some false
theorem kTQ7{i:TypeId}{A:Bool}{S:Nat}{Z:List Value}(h:(abEnv.agg i,abEnv.sz i,abEnv.zero i,kL zB i,dR zB i)=(some A,some S,some Z,true,some false)):TQ7 i A S Z:=by simpa only [Prod.mk.injEq]using h
abbrev TR0(i:TypeId)(f o1 o2 o3:Nat):Prop:=(∀(b o:Nat) (s:Option Nat),aC zB i (.pointer (some ⟨b,o,s⟩)) 0=some (.pointer (some ⟨b,o+f,none⟩))/\aC zB i (.pointer (some ⟨b,o,s⟩)) 1=some (.pointer (some ⟨b,o+o1,none⟩))/\aC zB i (.pointer (some ⟨b,o,s⟩)) 2=some (.pointer (some ⟨b,o+o2,none⟩))/\aC zB i (.pointer (some ⟨b,o,s⟩)) 3=some (.pointer (some ⟨b,o+o3,none⟩)))/\ ∀a c d e:Value,bF zB i (.agg ⟨[a,c,d,e]⟩) 0=some a/\bF zB i (.agg ⟨[a,c,d,e]⟩) 1=some c/\bF zB i (.agg ⟨[a,c,d,e]⟩) 2=some d/\bF zB i (.agg ⟨[a,c,d,e]⟩) 3=some e
abbrev TR1(i:TypeId)(g o1 o2 o3 h:Nat):Prop:=(∀(b o:Nat) (s:Option Nat),aC zB i (.pointer (some ⟨b,o,s⟩)) 0=some (.pointer (some ⟨b,o+g,none⟩))/\aC zB i (.pointer (some ⟨b,o,s⟩)) 1=some (.pointer (some ⟨b,o+o1,none⟩))/\aC zB i (.pointer (some ⟨b,o,s⟩)) 2=some (.pointer (some ⟨b,o+o2,none⟩))/\aC zB i (.pointer (some ⟨b,o,s⟩)) 3=some (.pointer (some ⟨b,o+o3,none⟩))/\aC zB i (.pointer (some ⟨b,o,s⟩)) 4=some (.pointer (some ⟨b,o+h,none⟩)))/\ ∀a c d e f:Value,bF zB i (.agg ⟨[a,c,d,e,f]⟩) 0=some a/\bF zB i (.agg ⟨[a,c,d,e,f]⟩) 1=some c/\bF zB i (.agg ⟨[a,c,d,e,f]⟩) 2=some d/\bF zB i (.agg ⟨[a,c,d,e,f]⟩) 3=some e/\bF zB i (.agg ⟨[a,c,d,e,f]⟩) 4=some f
abbrev TR2(i:TypeId)(e o1 o2:Nat):Prop:=(∀(b o:Nat) (s:Option Nat),aC zB i (.pointer (some ⟨b,o,s⟩)) 0=some (.pointer (some ⟨b,o+e,none⟩))/\aC zB i (.pointer (some ⟨b,o,s⟩)) 1=some (.pointer (some ⟨b,o+o1,none⟩))/\aC zB i (.pointer (some ⟨b,o,s⟩)) 2=some (.pointer (some ⟨b,o+o2,none⟩)))/\ ∀a c d:Value,bF zB i (.agg ⟨[a,c,d]⟩) 0=some a/\bF zB i (.agg ⟨[a,c,d]⟩) 1=some c/\bF zB i (.agg ⟨[a,c,d]⟩) 2=some d
abbrev TR3(i:TypeId)(l o1 o2 o3:Nat):Prop:=(∀(b o:Nat) (s:Option Nat),aC zB i (.pointer (some ⟨b,o,s⟩)) 0=some (.pointer (some ⟨b,o+l,none⟩))/\aC zB i (.pointer (some ⟨b,o,s⟩)) 1=some (.pointer (some ⟨b,o+o1,none⟩))/\aC zB i (.pointer (some ⟨b,o,s⟩)) 2=some (.pointer (some ⟨b,o+o2,none⟩))/\aC zB i (.pointer (some ⟨b,o,s⟩)) 3=some (.pointer (some ⟨b,o+o3,none⟩)))/\ ∀a c d e f g h j k:Value,bF zB i (.agg ⟨[a,c,d,e,f,g,h,j,k]⟩) 0=some (.agg ⟨[a,c,d,e]⟩)/\bF zB i (.agg ⟨[a,c,d,e,f,g,h,j,k]⟩) 1=some (.agg ⟨[f,g,h]⟩)/\bF zB i (.agg ⟨[a,c,d,e,f,g,h,j,k]⟩) 2=some j/\bF zB i (.agg ⟨[a,c,d,e,f,g,h,j,k]⟩) 3=some k
abbrev TR4(i:TypeId)(d o1:Nat):Prop:=(∀(b o:Nat) (s:Option Nat),aC zB i (.pointer (some ⟨b,o,s⟩)) 0=some (.pointer (some ⟨b,o+d,none⟩))/\aC zB i (.pointer (some ⟨b,o,s⟩)) 1=some (.pointer (some ⟨b,o+o1,none⟩)))/\ ∀a c:Value,bF zB i (.agg ⟨[a,c]⟩) 0=some a/\bF zB i (.agg ⟨[a,c]⟩) 1=some c
abbrev TR5(i:TypeId)(c:Nat):Prop:=(∀(b o:Nat) (s:Option Nat),aC zB i (.pointer (some ⟨b,o,s⟩)) 0=some (.pointer (some ⟨b,o+c,none⟩)))/\ ∀a:Value,bF zB i (.agg ⟨[a]⟩) 0=some a
abbrev TR6(i:TypeId)(p o1 o2 o3 q r t u v w n:Nat):Prop:=(∀(b o:Nat) (s:Option Nat),aC zB i (.pointer (some ⟨b,o,s⟩)) 0=some (.pointer (some ⟨b,o+p,none⟩))/\aC zB i (.pointer (some ⟨b,o,s⟩)) 1=some (.pointer (some ⟨b,o+o1,none⟩))/\aC zB i (.pointer (some ⟨b,o,s⟩)) 2=some (.pointer (some ⟨b,o+o2,none⟩))/\aC zB i (.pointer (some ⟨b,o,s⟩)) 3=some (.pointer (some ⟨b,o+o3,none⟩))/\aC zB i (.pointer (some ⟨b,o,s⟩)) 4=some (.pointer (some ⟨b,o+q,none⟩))/\aC zB i (.pointer (some ⟨b,o,s⟩)) 5=some (.pointer (some ⟨b,o+r,none⟩))/\aC zB i (.pointer (some ⟨b,o,s⟩)) 6=some (.pointer (some ⟨b,o+t,none⟩))/\aC zB i (.pointer (some ⟨b,o,s⟩)) 7=some (.pointer (some ⟨b,o+u,none⟩))/\aC zB i (.pointer (some ⟨b,o,s⟩)) 8=some (.pointer (some ⟨b,o+v,none⟩))/\aC zB i (.pointer (some ⟨b,o,s⟩)) 9=some (.pointer (some ⟨b,o+w,none⟩))/\aC zB i (.pointer (some ⟨b,o,s⟩)) 10=some (.pointer (some ⟨b,o+n,none⟩)))/\ ∀c d e f g h j k l m a:Value,bF zB i (.agg ⟨[c,d,e,f,g,h,j,k,l,m,a]⟩) 0=some c/\bF zB i (.agg ⟨[c,d,e,f,g,h,j,k,l,m,a]⟩) 1=some d/\bF zB i (.agg ⟨[c,d,e,f,g,h,j,k,l,m,a]⟩) 2=some e/\bF zB i (.agg ⟨[c,d,e,f,g,h,j,k,l,m,a]⟩) 3=some f/\bF zB i (.agg ⟨[c,d,e,f,g,h,j,k,l,m,a]⟩) 4=some g/\bF zB i (.agg ⟨[c,d,e,f,g,h,j,k,l,m,a]⟩) 5=some h/\bF zB i (.agg ⟨[c,d,e,f,g,h,j,k,l,m,a]⟩) 6=some j/\bF zB i (.agg ⟨[c,d,e,f,g,h,j,k,l,m,a]⟩) 7=some k/\bF zB i (.agg ⟨[c,d,e,f,g,h,j,k,l,m,a]⟩) 8=some l/\bF zB i (.agg ⟨[c,d,e,f,g,h,j,k,l,m,a]⟩) 9=some m/\bF zB i (.agg ⟨[c,d,e,f,g,h,j,k,l,m,a]⟩) 10=some a
abbrev TR7(i:TypeId)(h o1 o2:Nat):Prop:=(∀(b o:Nat) (s:Option Nat),aC zB i (.pointer (some ⟨b,o,s⟩)) 0=some (.pointer (some ⟨b,o+h,none⟩))/\aC zB i (.pointer (some ⟨b,o,s⟩)) 1=some (.pointer (some ⟨b,o+o1,none⟩))/\aC zB i (.pointer (some ⟨b,o,s⟩)) 2=some (.pointer (some ⟨b,o+o2,none⟩)))/\ ∀a c d e f g:Value,bF zB i (.agg ⟨[a,c,d,e,f,g]⟩) 0=some (.agg ⟨[a,c,d,e]⟩)/\bF zB i (.agg ⟨[a,c,d,e,f,g]⟩) 1=some f/\bF zB i (.agg ⟨[a,c,d,e,f,g]⟩) 2=some g
abbrev TR8(i:TypeId)(h o1 o2 o3 j k:Nat):Prop:=(∀(b o:Nat) (s:Option Nat),aC zB i (.pointer (some ⟨b,o,s⟩)) 0=some (.pointer (some ⟨b,o+h,none⟩))/\aC zB i (.pointer (some ⟨b,o,s⟩)) 1=some (.pointer (some ⟨b,o+o1,none⟩))/\aC zB i (.pointer (some ⟨b,o,s⟩)) 2=some (.pointer (some ⟨b,o+o2,none⟩))/\aC zB i (.pointer (some ⟨b,o,s⟩)) 3=some (.pointer (some ⟨b,o+o3,none⟩))/\aC zB i (.pointer (some ⟨b,o,s⟩)) 4=some (.pointer (some ⟨b,o+j,none⟩))/\aC zB i (.pointer (some ⟨b,o,s⟩)) 5=some (.pointer (some ⟨b,o+k,none⟩)))/\ ∀a c d e f g:Value,bF zB i (.agg ⟨[a,c,d,e,f,g]⟩) 0=some a/\bF zB i (.agg ⟨[a,c,d,e,f,g]⟩) 1=some c/\bF zB i (.agg ⟨[a,c,d,e,f,g]⟩) 2=some d/\bF zB i (.agg ⟨[a,c,d,e,f,g]⟩) 3=some e/\bF zB i (.agg ⟨[a,c,d,e,f,g]⟩) 4=some f/\bF zB i (.agg ⟨[a,c,d,e,f,g]⟩) 5=some g
abbrev TR9(i:TypeId)(g o1 o2:Nat):Prop:=(∀(b o:Nat) (s:Option Nat),aC zB i (.pointer (some ⟨b,o,s⟩)) 0=some (.pointer (some ⟨b,o+g,none⟩))/\aC zB i (.pointer (some ⟨b,o,s⟩)) 1=some (.pointer (some ⟨b,o+o1,none⟩))/\aC zB i (.pointer (some ⟨b,o,s⟩)) 2=some (.pointer (some ⟨b,o+o2,none⟩)))/\ ∀a c d e f:Value,bF zB i (.agg ⟨[a,c,d,e,f]⟩) 0=some a/\bF zB i (.agg ⟨[a,c,d,e,f]⟩) 1=some (.agg ⟨[c,d,e]⟩)/\bF zB i (.agg ⟨[a,c,d,e,f]⟩) 2=some f
abbrev TR10(i:TypeId)(e o1:Nat):Prop:=(∀(b o:Nat) (s:Option Nat),aC zB i (.pointer (some ⟨b,o,s⟩)) 0=some (.pointer (some ⟨b,o+e,none⟩))/\aC zB i (.pointer (some ⟨b,o,s⟩)) 1=some (.pointer (some ⟨b,o+o1,none⟩)))/\ ∀a c d:Value,bF zB i (.agg ⟨[a,c,d]⟩) 0=some (.agg ⟨[a,c]⟩)/\bF zB i (.agg ⟨[a,c,d]⟩) 1=some d
theorem t1:TQ0 1 false 1 [.nilFunc]:=kTQ0 (by kernel_rfl)
theorem t2:TQ1 2 (.int .i64) false 1 [.int .i64 0]:=kTQ1 (by kernel_rfl)
theorem e2E:dK zB 2 8 1 [.int .i64 0]:=⟨⟨_,rfl,by kernel_rfl,by kernel_rfl⟩,t2.2.2.2.1,rfl⟩
theorem t3:TQ1 3 (.int .i64) false 1 [.int .i64 0]:=kTQ1 (by kernel_rfl)
theorem e3E:dK zB 3 8 1 [.int .i64 0]:=⟨⟨_,rfl,by kernel_rfl,by kernel_rfl⟩,t3.2.2.2.1,rfl⟩
theorem t4:TQ2 4 .bool false 1 [.bool false]:=kTQ2 (by kernel_rfl)
theorem e4E:dK zB 4 1 1 [.bool false]:=⟨⟨_,rfl,by kernel_rfl,by kernel_rfl⟩,t4.2.2.2.1,rfl⟩
theorem t5:TQ1 5 (.int .u8) false 1 [.int .u8 0]:=kTQ1 (by kernel_rfl)
theorem e5E:dK zB 5 1 1 [.int .u8 0]:=⟨⟨_,rfl,by kernel_rfl,by kernel_rfl⟩,t5.2.2.2.1,rfl⟩
theorem t6:TQ1 6 (.int .u8) false 1 [.int .u8 0]:=kTQ1 (by kernel_rfl)
theorem t7:TQ3 7 true 4 [.int .i64 0,.int .i64 0,.bool false,.int .u8 0] [(0,1),(1,1),(2,1),(3,1)]:=kTQ3 (by kernel_rfl)
theorem r7:TR0 7 0 1 2 3:=⟨fun _ _ _=>⟨rfl,rfl,rfl,rfl⟩,fun _ _ _ _=>⟨rfl,rfl,rfl,rfl⟩⟩
theorem t8:TQ3 8 true 4 [.int .i64 0,.int .i64 0,.bool false,.int .u8 0] [(0,1),(1,1),(2,1),(3,1)]:=kTQ3 (by kernel_rfl)
theorem r8:TR0 8 0 1 2 3:=⟨fun _ _ _=>⟨rfl,rfl,rfl,rfl⟩,fun _ _ _ _=>⟨rfl,rfl,rfl,rfl⟩⟩
theorem t9:TQ2 9 .string false 1 [.string ⟨#[]⟩]:=kTQ2 (by kernel_rfl)
theorem t10:TQ2 10 .string false 1 [.string ⟨#[]⟩]:=kTQ2 (by kernel_rfl)
theorem t11:TQ2 11 .string false 1 [.string ⟨#[]⟩]:=kTQ2 (by kernel_rfl)
theorem t22:TQ4 22 (.slice 5) false 1 [.slice none 0 0]:=kTQ4 (by kernel_rfl)
theorem t23:TQ4 23 (.slice 2) false 1 [.slice none 0 0]:=kTQ4 (by kernel_rfl)
theorem e23E:dK zB 23 24 1 [.slice none 0 0]:=⟨⟨_,rfl,by kernel_rfl,by kernel_rfl⟩,t23.2.2.2.1,rfl⟩
theorem t25:TQ3 25 true 5 [.slice none 0 0,.slice none 0 0,.slice none 0 0,.int .u8 0,.slice none 0 0] [(0,1),(1,1),(2,1),(3,1),(4,1)]:=kTQ3 (by kernel_rfl)
theorem r25:TR1 25 0 1 2 3 4:=⟨fun _ _ _=>⟨rfl,rfl,rfl,rfl,rfl⟩,fun _ _ _ _ _=>⟨rfl,rfl,rfl,rfl,rfl⟩⟩
theorem t26:TQ2 26 (.array 3 5) true 3 [.int .u8 0,.int .u8 0,.int .u8 0]:=kTQ2 (by kernel_rfl)
theorem t27:TQ5 27 (.pointer 76) false 1 [.pointer none]:=kTQ5 (by kernel_rfl)
theorem t29:TQ1 29 (.int .i64) false 1 [.int .i64 0]:=kTQ1 (by kernel_rfl)
theorem t33:TQ4 33 (.slice 50) false 1 [.slice none 0 0]:=kTQ4 (by kernel_rfl)
theorem t35:TQ4 35 (.slice 90) false 1 [.slice none 0 0]:=kTQ4 (by kernel_rfl)
theorem t37:TQ3 37 true 4 [.int .i64 0,.slice none 0 0,.slice none 0 0,.slice none 0 0] [(0,1),(1,1),(2,1),(3,1)]:=kTQ3 (by kernel_rfl)
theorem r37:TR0 37 0 1 2 3:=⟨fun _ _ _=>⟨rfl,rfl,rfl,rfl⟩,fun _ _ _ _=>⟨rfl,rfl,rfl,rfl⟩⟩
theorem t38:TQ4 38 (.slice 3) false 1 [.slice none 0 0]:=kTQ4 (by kernel_rfl)
theorem e38E:dK zB 38 24 1 [.slice none 0 0]:=⟨⟨_,rfl,by kernel_rfl,by kernel_rfl⟩,t38.2.2.2.1,rfl⟩
theorem t39:TQ4 39 (.slice 23) false 1 [.slice none 0 0]:=kTQ4 (by kernel_rfl)
theorem t41:TQ3 41 true 3 [.slice none 0 0,.slice none 0 0,.slice none 0 0] [(0,1),(1,1),(2,1)]:=kTQ3 (by kernel_rfl)
theorem r41:TR2 41 0 1 2:=⟨fun _ _ _=>⟨rfl,rfl,rfl⟩,fun _ _ _=>⟨rfl,rfl,rfl⟩⟩
theorem t43:TQ3 43 true 9 [.int .i64 0,.slice none 0 0,.slice none 0 0,.slice none 0 0,.slice none 0 0,.slice none 0 0,.slice none 0 0,.slice none 0 0,.string ⟨#[]⟩] [(0,4),(4,3),(7,1),(8,1)]:=kTQ3 (by kernel_rfl)
theorem r43:TR3 43 0 4 7 8:=⟨fun _ _ _=>⟨rfl,rfl,rfl,rfl⟩,fun _ _ _ _ _ _ _ _ _=>⟨rfl,rfl,rfl,rfl⟩⟩
theorem t50:TQ3 50 true 2 [.int .i64 0,.string ⟨#[]⟩] [(0,1),(1,1)]:=kTQ3 (by kernel_rfl)
theorem r50:TR4 50 0 1:=⟨fun _ _ _=>⟨rfl,rfl⟩,fun _ _=>⟨rfl,rfl⟩⟩
theorem e50E:dK zB 50 24 2 [.int .i64 0,.string ⟨#[]⟩]:=⟨⟨_,rfl,by kernel_rfl,by kernel_rfl⟩,t50.2.2.1,rfl⟩
theorem t67:TQ5 67 (.pointer 164) false 1 [.pointer none]:=kTQ5 (by kernel_rfl)
theorem t72:TQ5 72 (.pointer 140) false 1 [.pointer none]:=kTQ5 (by kernel_rfl)
theorem t73:TQ5 73 (.pointer 150) false 1 [.pointer none]:=kTQ5 (by kernel_rfl)
theorem t74:TQ5 74 (.pointer 166) false 1 [.pointer none]:=kTQ5 (by kernel_rfl)
theorem t76:TQ3 76 true 4 [.pointer none,.pointer none,.pointer none,.pointer none] [(0,1),(1,1),(2,1),(3,1)]:=kTQ3 (by kernel_rfl)
theorem r76:TR0 76 0 1 2 3:=⟨fun _ _ _=>⟨rfl,rfl,rfl,rfl⟩,fun _ _ _ _=>⟨rfl,rfl,rfl,rfl⟩⟩
theorem t12:TQ1 12 (.int .u64) false 1 [.int .u64 0]:=kTQ1 (by kernel_rfl)
theorem t13:TQ3 13 true 2 [.string ⟨#[]⟩,.int .u64 0] [(0,1),(1,1)]:=kTQ3 (by kernel_rfl)
theorem r13:TR4 13 0 1:=⟨fun _ _ _=>⟨rfl,rfl⟩,fun _ _=>⟨rfl,rfl⟩⟩
theorem t14:TQ3 14 true 2 [.string ⟨#[]⟩,.int .u64 0] [(0,1),(1,1)]:=kTQ3 (by kernel_rfl)
theorem r14:TR4 14 0 1:=⟨fun _ _ _=>⟨rfl,rfl⟩,fun _ _=>⟨rfl,rfl⟩⟩
theorem t15:TQ5 15 (.pointer 354) false 1 [.pointer none]:=kTQ5 (by kernel_rfl)
theorem t16:TQ5 16 (.pointer 357) false 1 [.pointer none]:=kTQ5 (by kernel_rfl)
theorem t17:TQ5 17 (.pointer 364) false 1 [.pointer none]:=kTQ5 (by kernel_rfl)
theorem t18:TQ3 18 true 1 [.pointer none] [(0,1)]:=kTQ3 (by kernel_rfl)
theorem r18:TR5 18 0:=⟨fun _ _ _=>rfl,fun _=>rfl⟩
theorem t19:TQ3 19 true 1 [.pointer none] [(0,1)]:=kTQ3 (by kernel_rfl)
theorem r19:TR5 19 0:=⟨fun _ _ _=>rfl,fun _=>rfl⟩
theorem t20:TQ6 20 false 1 [.nilIface]:=kTQ6 (by kernel_rfl)
theorem t21:TQ1 21 (.int .i32) false 1 [.int .i32 0]:=kTQ1 (by kernel_rfl)
theorem t24:TQ3 24 true 5 [.slice none 0 0,.slice none 0 0,.slice none 0 0,.int .u8 0,.slice none 0 0] [(0,1),(1,1),(2,1),(3,1),(4,1)]:=kTQ3 (by kernel_rfl)
theorem r24:TR1 24 0 1 2 3 4:=⟨fun _ _ _=>⟨rfl,rfl,rfl,rfl,rfl⟩,fun _ _ _ _ _=>⟨rfl,rfl,rfl,rfl,rfl⟩⟩
theorem t28:TQ0 28 false 1 [.nilFunc]:=kTQ0 (by kernel_rfl)
theorem t48:TQ2 48 (.array 4 5) true 4 [.int .u8 0,.int .u8 0,.int .u8 0,.int .u8 0]:=kTQ2 (by kernel_rfl)
theorem t58:TQ1 58 (.int .u32) false 1 [.int .u32 0]:=kTQ1 (by kernel_rfl)
theorem e58E:dK zB 58 4 1 [.int .u32 0]:=⟨⟨_,rfl,by kernel_rfl,by kernel_rfl⟩,t58.2.2.2.1,rfl⟩
theorem t157:TQ5 157 (.pointer 5) false 1 [.pointer none]:=kTQ5 (by kernel_rfl)
theorem t268:TQ1 268 (.int .u8) false 1 [.int .u8 0]:=kTQ1 (by kernel_rfl)
theorem t354:TQ3 354 true 4 [.pointer none,.pointer none,.pointer none,.string ⟨#[]⟩] [(0,1),(1,1),(2,1),(3,1)]:=kTQ3 (by kernel_rfl)
theorem r354:TR0 354 0 1 2 3:=⟨fun _ _ _=>⟨rfl,rfl,rfl,rfl⟩,fun _ _ _ _=>⟨rfl,rfl,rfl,rfl⟩⟩
theorem t355:TQ2 355 (.array 0 16) true 0 []:=kTQ2 (by kernel_rfl)
theorem t357:TQ7 357 true 0 []:=kTQ7 (by kernel_rfl)
theorem t359:TQ1 359 (.int .u8) false 1 [.int .u8 0]:=kTQ1 (by kernel_rfl)
theorem t360:TQ0 360 false 1 [.nilFunc]:=kTQ0 (by kernel_rfl)
theorem t361:TQ1 361 (.int .i32) false 1 [.int .i32 0]:=kTQ1 (by kernel_rfl)
theorem t362:TQ1 362 (.int .i32) false 1 [.int .i32 0]:=kTQ1 (by kernel_rfl)
theorem t364:TQ3 364 true 11 [.int .u64 0,.int .u64 0,.int .u32 0,.int .u8 0,.int .u8 0,.int .u8 0,.int .u8 0,.nilFunc,.pointer none,.int .i32 0,.int .i32 0] [(0,1),(1,1),(2,1),(3,1),(4,1),(5,1),(6,1),(7,1),(8,1),(9,1),(10,1)]:=kTQ3 (by kernel_rfl)
theorem r364:TR6 364 0 1 2 3 4 5 6 7 8 9 10:=⟨fun _ _ _=>⟨rfl,rfl,rfl,rfl,rfl,rfl,rfl,rfl,rfl,rfl,rfl⟩,fun _ _ _ _ _ _ _ _ _ _ _=>⟨rfl,rfl,rfl,rfl,rfl,rfl,rfl,rfl,rfl,rfl,rfl⟩⟩
theorem e5:abEnv.fn 5=some Tryz.f5:=by kernel_rfl
theorem t31:TQ0 31 false 1 [.nilFunc]:=kTQ0 (by kernel_rfl)
theorem t32:TQ0 32 false 1 [.nilFunc]:=kTQ0 (by kernel_rfl)
theorem t34:TQ0 34 false 1 [.nilFunc]:=kTQ0 (by kernel_rfl)
theorem t36:TQ3 36 true 4 [.int .i64 0,.slice none 0 0,.slice none 0 0,.slice none 0 0] [(0,1),(1,1),(2,1),(3,1)]:=kTQ3 (by kernel_rfl)
theorem r36:TR0 36 0 1 2 3:=⟨fun _ _ _=>⟨rfl,rfl,rfl,rfl⟩,fun _ _ _ _=>⟨rfl,rfl,rfl,rfl⟩⟩
theorem t40:TQ3 40 true 3 [.slice none 0 0,.slice none 0 0,.slice none 0 0] [(0,1),(1,1),(2,1)]:=kTQ3 (by kernel_rfl)
theorem r40:TR2 40 0 1 2:=⟨fun _ _ _=>⟨rfl,rfl,rfl⟩,fun _ _ _=>⟨rfl,rfl,rfl⟩⟩
theorem t42:TQ3 42 true 9 [.int .i64 0,.slice none 0 0,.slice none 0 0,.slice none 0 0,.slice none 0 0,.slice none 0 0,.slice none 0 0,.slice none 0 0,.string ⟨#[]⟩] [(0,4),(4,3),(7,1),(8,1)]:=kTQ3 (by kernel_rfl)
theorem r42:TR3 42 0 4 7 8:=⟨fun _ _ _=>⟨rfl,rfl,rfl,rfl⟩,fun _ _ _ _ _ _ _ _ _=>⟨rfl,rfl,rfl,rfl⟩⟩
theorem t44:TQ0 44 false 1 [.nilFunc]:=kTQ0 (by kernel_rfl)
theorem t45:TQ0 45 false 1 [.nilFunc]:=kTQ0 (by kernel_rfl)
theorem t46:TQ0 46 false 1 [.nilFunc]:=kTQ0 (by kernel_rfl)
theorem t47:TQ0 47 false 1 [.nilFunc]:=kTQ0 (by kernel_rfl)
theorem t49:TQ3 49 true 2 [.int .i64 0,.string ⟨#[]⟩] [(0,1),(1,1)]:=kTQ3 (by kernel_rfl)
theorem r49:TR4 49 0 1:=⟨fun _ _ _=>⟨rfl,rfl⟩,fun _ _=>⟨rfl,rfl⟩⟩
theorem t63:TQ5 63 (.pointer 65) false 1 [.pointer none]:=kTQ5 (by kernel_rfl)
theorem t65:TQ3 65 true 2 [.slice none 0 0,.int .i64 0] [(0,1),(1,1)]:=kTQ3 (by kernel_rfl)
theorem r65:TR4 65 0 1:=⟨fun _ _ _=>⟨rfl,rfl⟩,fun _ _=>⟨rfl,rfl⟩⟩
theorem t69:TQ6 69 false 1 [.nilIface]:=kTQ6 (by kernel_rfl)
theorem t85:TQ1 85 (.int .u64) false 1 [.int .u64 0]:=kTQ1 (by kernel_rfl)
theorem e85E:dK zB 85 8 1 [.int .u64 0]:=⟨⟨_,rfl,by kernel_rfl,by kernel_rfl⟩,t85.2.2.2.1,rfl⟩
theorem t90:TQ3 90 true 3 [.int .i64 0,.int .i64 0,.int .i64 0] [(0,1),(1,1),(2,1)]:=kTQ3 (by kernel_rfl)
theorem r90:TR2 90 0 1 2:=⟨fun _ _ _=>⟨rfl,rfl,rfl⟩,fun _ _ _=>⟨rfl,rfl,rfl⟩⟩
theorem e90E:dK zB 90 24 3 [.int .i64 0,.int .i64 0,.int .i64 0]:=⟨⟨_,rfl,by kernel_rfl,by kernel_rfl⟩,t90.2.2.1,rfl⟩
theorem t140:TQ3 140 true 4 [.int .i64 0,.slice none 0 0,.slice none 0 0,.slice none 0 0] [(0,1),(1,1),(2,1),(3,1)]:=kTQ3 (by kernel_rfl)
theorem r140:TR0 140 0 1 2 3:=⟨fun _ _ _=>⟨rfl,rfl,rfl,rfl⟩,fun _ _ _ _=>⟨rfl,rfl,rfl,rfl⟩⟩
theorem t150:TQ3 150 true 2 [.slice none 0 0,.int .i64 0] [(0,1),(1,1)]:=kTQ3 (by kernel_rfl)
theorem r150:TR4 150 0 1:=⟨fun _ _ _=>⟨rfl,rfl⟩,fun _ _=>⟨rfl,rfl⟩⟩
theorem t162:TQ4 162 (.slice 38) false 1 [.slice none 0 0]:=kTQ4 (by kernel_rfl)
theorem t164:TQ3 164 true 6 [.int .i64 0,.slice none 0 0,.slice none 0 0,.slice none 0 0,.slice none 0 0,.slice none 0 0] [(0,4),(4,1),(5,1)]:=kTQ3 (by kernel_rfl)
theorem r164:TR7 164 0 4 5:=⟨fun _ _ _=>⟨rfl,rfl,rfl⟩,fun _ _ _ _ _ _=>⟨rfl,rfl,rfl⟩⟩
theorem t166:TQ3 166 true 4 [.int .i64 0,.int .i64 0,.int .i64 0,.slice none 0 0] [(0,1),(1,1),(2,1),(3,1)]:=kTQ3 (by kernel_rfl)
theorem r166:TR0 166 0 1 2 3:=⟨fun _ _ _=>⟨rfl,rfl,rfl,rfl⟩,fun _ _ _ _=>⟨rfl,rfl,rfl,rfl⟩⟩
theorem e7:abEnv.fn 7=some Tryz.f7:=by kernel_rfl
theorem e8:abEnv.fn 8=some Tryz.f8:=by kernel_rfl
theorem t97:TQ5 97 (.pointer 176) false 1 [.pointer none]:=kTQ5 (by kernel_rfl)
theorem t176:TQ3 176 true 1 [.slice none 0 0] [(0,1)]:=kTQ3 (by kernel_rfl)
theorem r176:TR5 176 0:=⟨fun _ _ _=>rfl,fun _=>rfl⟩
theorem t178:TQ4 178 (.slice 85) false 1 [.slice none 0 0]:=kTQ4 (by kernel_rfl)
theorem t180:TQ4 180 (.slice 58) false 1 [.slice none 0 0]:=kTQ4 (by kernel_rfl)
theorem e14:abEnv.fn 14=some Tryz.f14:=by kernel_rfl
theorem e15:abEnv.fn 15=some Tryz.f15:=by kernel_rfl
theorem e16:abEnv.fn 16=some Tryz.f16:=by kernel_rfl
theorem t111:TQ0 111 false 1 [.nilFunc]:=kTQ0 (by kernel_rfl)
theorem e17:abEnv.fn 17=some Tryz.f17:=by kernel_rfl
theorem t118:TQ5 118 (.pointer 122) false 1 [.pointer none]:=kTQ5 (by kernel_rfl)
theorem t119:TQ5 119 (.pointer 193) false 1 [.pointer none]:=kTQ5 (by kernel_rfl)
theorem t122:TQ3 122 true 2 [.pointer none,.string ⟨#[]⟩] [(0,1),(1,1)]:=kTQ3 (by kernel_rfl)
theorem r122:TR4 122 0 1:=⟨fun _ _ _=>⟨rfl,rfl⟩,fun _ _=>⟨rfl,rfl⟩⟩
theorem t128:TQ5 128 (.pointer 126) false 1 [.pointer none]:=kTQ5 (by kernel_rfl)
theorem t193:TQ3 193 true 3 [.string ⟨#[]⟩,.int .i64 0,.pointer none] [(0,1),(1,1),(2,1)]:=kTQ3 (by kernel_rfl)
theorem r193:TR2 193 0 1 2:=⟨fun _ _ _=>⟨rfl,rfl,rfl⟩,fun _ _ _=>⟨rfl,rfl,rfl⟩⟩
theorem e18:abEnv.fn 18=some Tryz.f18:=by kernel_rfl
theorem e20:abEnv.fn 20=some Tryz.f20:=by kernel_rfl
theorem t126:TQ3 126 true 4 [.int .i64 0,.int .i64 0,.int .i64 0,.int .i64 0] [(0,1),(1,1),(2,1),(3,1)]:=kTQ3 (by kernel_rfl)
theorem r126:TR0 126 0 1 2 3:=⟨fun _ _ _=>⟨rfl,rfl,rfl,rfl⟩,fun _ _ _ _=>⟨rfl,rfl,rfl,rfl⟩⟩
theorem t130:TQ3 130 true 1 [.pointer none] [(0,1)]:=kTQ3 (by kernel_rfl)
theorem r130:TR5 130 0:=⟨fun _ _ _=>rfl,fun _=>rfl⟩
theorem e21:abEnv.fn 21=some Tryz.f21:=by kernel_rfl
theorem t136:TQ0 136 false 1 [.nilFunc]:=kTQ0 (by kernel_rfl)
theorem t138:TQ0 138 false 1 [.nilFunc]:=kTQ0 (by kernel_rfl)
theorem e22:abEnv.fn 22=some Tryz.f22:=by kernel_rfl
theorem e23:abEnv.fn 23=some Tryz.f23:=by kernel_rfl
theorem t144:TQ0 144 false 1 [.nilFunc]:=kTQ0 (by kernel_rfl)
theorem t146:TQ0 146 false 1 [.nilFunc]:=kTQ0 (by kernel_rfl)
theorem e24:abEnv.fn 24=some Tryz.f24:=by kernel_rfl
theorem e25:abEnv.fn 25=some Tryz.f25:=by kernel_rfl
theorem e26:abEnv.fn 26=some Tryz.f26:=by kernel_rfl
theorem t154:TQ0 154 false 1 [.nilFunc]:=kTQ0 (by kernel_rfl)
theorem e27:abEnv.fn 27=some Tryz.f27:=by kernel_rfl
theorem t158:TQ0 158 false 1 [.nilFunc]:=kTQ0 (by kernel_rfl)
theorem e28:abEnv.fn 28=some Tryz.f28:=by kernel_rfl
theorem t92:TQ0 92 false 1 [.nilFunc]:=kTQ0 (by kernel_rfl)
theorem t159:TQ3 159 true 3 [.int .i64 0,.bool false,.nilFunc] [(0,1),(1,1),(2,1)]:=kTQ3 (by kernel_rfl)
theorem r159:TR2 159 0 1 2:=⟨fun _ _ _=>⟨rfl,rfl,rfl⟩,fun _ _ _=>⟨rfl,rfl,rfl⟩⟩
theorem t160:TQ2 160 (.array 4 159) true 12 [.int .i64 0,.bool false,.nilFunc,.int .i64 0,.bool false,.nilFunc,.int .i64 0,.bool false,.nilFunc,.int .i64 0,.bool false,.nilFunc]:=kTQ2 (by kernel_rfl)
theorem e29:abEnv.fn 29=some Tryz.f29:=by kernel_rfl
theorem e32:abEnv.fn 32=some Tryz.f32:=by kernel_rfl
theorem e33:abEnv.fn 33=some Tryz.f33:=by kernel_rfl
theorem e34:abEnv.fn 34=some Tryz.f34:=by kernel_rfl
theorem e35:abEnv.fn 35=some Tryz.f35:=by kernel_rfl
theorem e39:abEnv.fn 39=some Tryz.f39:=by kernel_rfl
theorem e40:abEnv.fn 40=some Tryz.f40:=by kernel_rfl
theorem e41:abEnv.fn 41=some Tryz.f41:=by kernel_rfl
theorem e42:abEnv.fn 42=some Tryz.f42:=by kernel_rfl
theorem e43:abEnv.fn 43=some Tryz.f43:=by kernel_rfl
theorem e44:abEnv.fn 44=some Tryz.f44:=by kernel_rfl
theorem e45:abEnv.fn 45=some Tryz.f45:=by kernel_rfl
theorem e46:abEnv.fn 46=some Tryz.f46:=by kernel_rfl
theorem e47:abEnv.fn 47=some Tryz.f47:=by kernel_rfl
theorem t228:TQ4 228 (.slice 4) false 1 [.slice none 0 0]:=kTQ4 (by kernel_rfl)
theorem e48:abEnv.fn 48=some Tryz.f48:=by kernel_rfl
theorem e49:abEnv.fn 49=some Tryz.f49:=by kernel_rfl
theorem t107:TQ3 107 true 1 [.int .i64 0] [(0,1)]:=kTQ3 (by kernel_rfl)
theorem r107:TR5 107 0:=⟨fun _ _ _=>rfl,fun _=>rfl⟩
theorem e50:abEnv.fn 50=some Tryz.f50:=by kernel_rfl
theorem t110:TQ0 110 false 1 [.nilFunc]:=kTQ0 (by kernel_rfl)
theorem e51:abEnv.fn 51=some Tryz.f51:=by kernel_rfl
theorem e52:abEnv.fn 52=some Tryz.f52:=by kernel_rfl
theorem e53:abEnv.fn 53=some Tryz.f53:=by kernel_rfl
theorem e54:abEnv.fn 54=some Tryz.f54:=by kernel_rfl
theorem t103:TQ0 103 false 1 [.nilFunc]:=kTQ0 (by kernel_rfl)
theorem t185:TQ0 185 false 1 [.nilFunc]:=kTQ0 (by kernel_rfl)
theorem e55:abEnv.fn 55=some Tryz.f55:=by kernel_rfl
theorem t123:TQ0 123 false 1 [.nilFunc]:=kTQ0 (by kernel_rfl)
theorem t188:TQ2 188 (.array 2 39) true 2 [.slice none 0 0,.slice none 0 0]:=kTQ2 (by kernel_rfl)
theorem e56:abEnv.fn 56=some Tryz.f56:=by kernel_rfl
theorem e57:abEnv.fn 57=some Tryz.f57:=by kernel_rfl
theorem e58:abEnv.fn 58=some Tryz.f58:=by kernel_rfl
theorem e59:abEnv.fn 59=some Tryz.f59:=by kernel_rfl
theorem t194:TQ4 194 (.slice 199) false 1 [.slice none 0 0]:=kTQ4 (by kernel_rfl)
theorem t196:TQ0 196 false 1 [.nilFunc]:=kTQ0 (by kernel_rfl)
theorem t199:TQ3 199 true 3 [.int .i64 0,.int .u64 0,.int .u32 0] [(0,1),(1,1),(2,1)]:=kTQ3 (by kernel_rfl)
theorem r199:TR2 199 0 1 2:=⟨fun _ _ _=>⟨rfl,rfl,rfl⟩,fun _ _ _=>⟨rfl,rfl,rfl⟩⟩
theorem e199E:dK zB 199 24 3 [.int .i64 0,.int .u64 0,.int .u32 0]:=⟨⟨_,rfl,by kernel_rfl,by kernel_rfl⟩,t199.2.2.1,rfl⟩
theorem e60:abEnv.fn 60=some Tryz.f60:=by kernel_rfl
theorem e61:abEnv.fn 61=some Tryz.f61:=by kernel_rfl
theorem e62:abEnv.fn 62=some Tryz.f62:=by kernel_rfl
theorem e63:abEnv.fn 63=some Tryz.f63:=by kernel_rfl
theorem t209:TQ0 209 false 1 [.nilFunc]:=kTQ0 (by kernel_rfl)
theorem t210:TQ0 210 false 1 [.nilFunc]:=kTQ0 (by kernel_rfl)
theorem e65:abEnv.fn 65=some Tryz.f65:=by kernel_rfl
theorem e66:abEnv.fn 66=some Tryz.f66:=by kernel_rfl
theorem t213:TQ2 213 (.map 3 3) false 1 [.map none]:=kTQ2 (by kernel_rfl)
theorem t214:TQ0 214 false 1 [.nilFunc]:=kTQ0 (by kernel_rfl)
theorem e67:abEnv.fn 67=some Tryz.f67:=by kernel_rfl
theorem e68:abEnv.fn 68=some Tryz.f68:=by kernel_rfl
theorem e69:abEnv.fn 69=some Tryz.f69:=by kernel_rfl
theorem e70:abEnv.fn 70=some Tryz.f70:=by kernel_rfl
theorem t218:TQ3 218 true 3 [.slice none 0 0,.slice none 0 0,.slice none 0 0] [(0,1),(1,1),(2,1)]:=kTQ3 (by kernel_rfl)
theorem r218:TR2 218 0 1 2:=⟨fun _ _ _=>⟨rfl,rfl,rfl⟩,fun _ _ _=>⟨rfl,rfl,rfl⟩⟩
theorem t220:TQ0 220 false 1 [.nilFunc]:=kTQ0 (by kernel_rfl)
theorem e71:abEnv.fn 71=some Tryz.f71:=by kernel_rfl
theorem e72:abEnv.fn 72=some Tryz.f72:=by kernel_rfl
theorem e73:abEnv.fn 73=some Tryz.f73:=by kernel_rfl
theorem t143:TQ0 143 false 1 [.nilFunc]:=kTQ0 (by kernel_rfl)
theorem e74:abEnv.fn 74=some Tryz.f74:=by kernel_rfl
theorem e75:abEnv.fn 75=some Tryz.f75:=by kernel_rfl
theorem e76:abEnv.fn 76=some Tryz.f76:=by kernel_rfl
theorem e77:abEnv.fn 77=some Tryz.f77:=by kernel_rfl
theorem e78:abEnv.fn 78=some Tryz.f78:=by kernel_rfl
theorem e79:abEnv.fn 79=some Tryz.f79:=by kernel_rfl
theorem t61:TQ0 61 false 1 [.nilFunc]:=kTQ0 (by kernel_rfl)
theorem e80:abEnv.fn 80=some Tryz.f80:=by kernel_rfl
theorem e81:abEnv.fn 81=some Tryz.f81:=by kernel_rfl
theorem e82:abEnv.fn 82=some Tryz.f82:=by kernel_rfl
theorem e83:abEnv.fn 83=some Tryz.f83:=by kernel_rfl
theorem e84:abEnv.fn 84=some Tryz.f84:=by kernel_rfl
theorem e85:abEnv.fn 85=some Tryz.f85:=by kernel_rfl
theorem e86:abEnv.fn 86=some Tryz.f86:=by kernel_rfl
theorem e87:abEnv.fn 87=some Tryz.f87:=by kernel_rfl
theorem e88:abEnv.fn 88=some Tryz.f88:=by kernel_rfl
theorem e89:abEnv.fn 89=some Tryz.f89:=by kernel_rfl
theorem e90:abEnv.fn 90=some Tryz.f90:=by kernel_rfl
theorem e91:abEnv.fn 91=some Tryz.f91:=by kernel_rfl
theorem e92:abEnv.fn 92=some Tryz.f92:=by kernel_rfl
theorem t242:TQ2 242 (.array 8 5) true 8 [.int .u8 0,.int .u8 0,.int .u8 0,.int .u8 0,.int .u8 0,.int .u8 0,.int .u8 0,.int .u8 0]:=kTQ2 (by kernel_rfl)
theorem t243:TQ1 243 (.int .u64) false 1 [.int .u64 0]:=kTQ1 (by kernel_rfl)
theorem e101:abEnv.fn 101=some Tryz.f101:=by kernel_rfl
theorem e102:abEnv.fn 102=some Tryz.f102:=by kernel_rfl
theorem e103:abEnv.fn 103=some Tryz.f103:=by kernel_rfl
theorem t88:TQ0 88 false 1 [.nilFunc]:=kTQ0 (by kernel_rfl)
theorem e104:abEnv.fn 104=some Tryz.f104:=by kernel_rfl
theorem e105:abEnv.fn 105=some Tryz.f105:=by kernel_rfl
theorem e106:abEnv.fn 106=some Tryz.f106:=by kernel_rfl
theorem e107:abEnv.fn 107=some Tryz.f107:=by kernel_rfl
theorem e108:abEnv.fn 108=some Tryz.f108:=by kernel_rfl
theorem e109:abEnv.fn 109=some Tryz.f109:=by kernel_rfl
theorem e110:abEnv.fn 110=some Tryz.f110:=by kernel_rfl
theorem e111:abEnv.fn 111=some Tryz.f111:=by kernel_rfl
theorem e112:abEnv.fn 112=some Tryz.f112:=by kernel_rfl
theorem e113:abEnv.fn 113=some Tryz.f113:=by kernel_rfl
theorem e114:abEnv.fn 114=some Tryz.f114:=by kernel_rfl
theorem t248:TQ0 248 false 1 [.nilFunc]:=kTQ0 (by kernel_rfl)
theorem e115:abEnv.fn 115=some Tryz.f115:=by kernel_rfl
theorem e116:abEnv.fn 116=some Tryz.f116:=by kernel_rfl
theorem e117:abEnv.fn 117=some Tryz.f117:=by kernel_rfl
theorem e118:abEnv.fn 118=some Tryz.f118:=by kernel_rfl
theorem e119:abEnv.fn 119=some Tryz.f119:=by kernel_rfl
theorem e120:abEnv.fn 120=some Tryz.f120:=by kernel_rfl
theorem e121:abEnv.fn 121=some Tryz.f121:=by kernel_rfl
theorem e122:abEnv.fn 122=some Tryz.f122:=by kernel_rfl
theorem e123:abEnv.fn 123=some Tryz.f123:=by kernel_rfl
theorem e124:abEnv.fn 124=some Tryz.f124:=by kernel_rfl
theorem e125:abEnv.fn 125=some Tryz.f125:=by kernel_rfl
theorem t203:TQ3 203 true 1 [.pointer none] [(0,1)]:=kTQ3 (by kernel_rfl)
theorem r203:TR5 203 0:=⟨fun _ _ _=>rfl,fun _=>rfl⟩
theorem e126:abEnv.fn 126=some Tryz.f126:=by kernel_rfl
theorem t253:TQ0 253 false 1 [.nilFunc]:=kTQ0 (by kernel_rfl)
theorem t255:TQ0 255 false 1 [.nilFunc]:=kTQ0 (by kernel_rfl)
theorem e255E:dK zB 255 8 1 [.nilFunc]:=⟨⟨_,rfl,by kernel_rfl,by kernel_rfl⟩,t255.2.2.1,rfl⟩
theorem t257:TQ4 257 (.slice 255) false 1 [.slice none 0 0]:=kTQ4 (by kernel_rfl)
theorem t259:TQ3 259 true 6 [.int .i64 0,.int .i64 0,.int .i64 0,.int .i64 0,.int .i64 0,.int .i64 0] [(0,1),(1,1),(2,1),(3,1),(4,1),(5,1)]:=kTQ3 (by kernel_rfl)
theorem r259:TR8 259 0 1 2 3 4 5:=⟨fun _ _ _=>⟨rfl,rfl,rfl,rfl,rfl,rfl⟩,fun _ _ _ _ _ _=>⟨rfl,rfl,rfl,rfl,rfl,rfl⟩⟩
theorem e259E:dK zB 259 48 6 [.int .i64 0,.int .i64 0,.int .i64 0,.int .i64 0,.int .i64 0,.int .i64 0]:=⟨⟨_,rfl,by kernel_rfl,by kernel_rfl⟩,t259.2.2.1,rfl⟩
theorem e127:abEnv.fn 127=some Tryz.f127:=by kernel_rfl
theorem e129:abEnv.fn 129=some Tryz.f129:=by kernel_rfl
theorem e130:abEnv.fn 130=some Tryz.f130:=by kernel_rfl
theorem e131:abEnv.fn 131=some Tryz.f131:=by kernel_rfl
theorem e132:abEnv.fn 132=some Tryz.f132:=by kernel_rfl
theorem e133:abEnv.fn 133=some Tryz.f133:=by kernel_rfl
theorem e134:abEnv.fn 134=some Tryz.f134:=by kernel_rfl
theorem e135:abEnv.fn 135=some Tryz.f135:=by kernel_rfl
theorem e136:abEnv.fn 136=some Tryz.f136:=by kernel_rfl
theorem e137:abEnv.fn 137=some Tryz.f137:=by kernel_rfl
theorem t101:TQ0 101 false 1 [.nilFunc]:=kTQ0 (by kernel_rfl)
theorem t102:TQ0 102 false 1 [.nilFunc]:=kTQ0 (by kernel_rfl)
theorem t273:TQ5 273 (.pointer 279) false 1 [.pointer none]:=kTQ5 (by kernel_rfl)
theorem t274:TQ5 274 (.pointer 324) false 1 [.pointer none]:=kTQ5 (by kernel_rfl)
theorem t279:TQ3 279 true 5 [.pointer none,.slice none 0 0,.slice none 0 0,.slice none 0 0,.map none] [(0,1),(1,3),(4,1)]:=kTQ3 (by kernel_rfl)
theorem r279:TR9 279 0 1 4:=⟨fun _ _ _=>⟨rfl,rfl,rfl⟩,fun _ _ _ _ _=>⟨rfl,rfl,rfl⟩⟩
theorem t284:TQ0 284 false 1 [.nilFunc]:=kTQ0 (by kernel_rfl)
theorem t322:TQ3 322 true 2 [.slice none 0 0,.map none] [(0,1),(1,1)]:=kTQ3 (by kernel_rfl)
theorem r322:TR4 322 0 1:=⟨fun _ _ _=>⟨rfl,rfl⟩,fun _ _=>⟨rfl,rfl⟩⟩
theorem t324:TQ3 324 true 3 [.slice none 0 0,.map none,.int .i64 0] [(0,2),(2,1)]:=kTQ3 (by kernel_rfl)
theorem r324:TR10 324 0 2:=⟨fun _ _ _=>⟨rfl,rfl⟩,fun _ _ _=>⟨rfl,rfl⟩⟩
theorem e138:abEnv.fn 138=some Tryz.f138:=by kernel_rfl
theorem e139:abEnv.fn 139=some Tryz.f139:=by kernel_rfl
theorem e140:abEnv.fn 140=some Tryz.f140:=by kernel_rfl
theorem e141:abEnv.fn 141=some Tryz.f141:=by kernel_rfl
theorem e142:abEnv.fn 142=some Tryz.f142:=by kernel_rfl
theorem e143:abEnv.fn 143=some Tryz.f143:=by kernel_rfl
theorem e144:abEnv.fn 144=some Tryz.f144:=by kernel_rfl
theorem e145:abEnv.fn 145=some Tryz.f145:=by kernel_rfl
theorem e146:abEnv.fn 146=some Tryz.f146:=by kernel_rfl
theorem t225:TQ0 225 false 1 [.nilFunc]:=kTQ0 (by kernel_rfl)
theorem e147:abEnv.fn 147=some Tryz.f147:=by kernel_rfl
theorem e148:abEnv.fn 148=some Tryz.f148:=by kernel_rfl
theorem e149:abEnv.fn 149=some Tryz.f149:=by kernel_rfl
theorem e150:abEnv.fn 150=some Tryz.f150:=by kernel_rfl
theorem e151:abEnv.fn 151=some Tryz.f151:=by kernel_rfl
theorem e152:abEnv.fn 152=some Tryz.f152:=by kernel_rfl
theorem e153:abEnv.fn 153=some Tryz.f153:=by kernel_rfl
theorem e154:abEnv.fn 154=some Tryz.f154:=by kernel_rfl
theorem t301:TQ2 301 (.array 16 58) true 16 [.int .u32 0,.int .u32 0,.int .u32 0,.int .u32 0,.int .u32 0,.int .u32 0,.int .u32 0,.int .u32 0,.int .u32 0,.int .u32 0,.int .u32 0,.int .u32 0,.int .u32 0,.int .u32 0,.int .u32 0,.int .u32 0]:=kTQ2 (by kernel_rfl)
theorem e163:abEnv.fn 163=some Tryz.f163:=by kernel_rfl
theorem e164:abEnv.fn 164=some Tryz.f164:=by kernel_rfl
theorem e165:abEnv.fn 165=some Tryz.f165:=by kernel_rfl
theorem e166:abEnv.fn 166=some Tryz.f166:=by kernel_rfl
theorem e167:abEnv.fn 167=some Tryz.f167:=by kernel_rfl
theorem e168:abEnv.fn 168=some Tryz.f168:=by kernel_rfl
theorem e169:abEnv.fn 169=some Tryz.f169:=by kernel_rfl
theorem t249:TQ0 249 false 1 [.nilFunc]:=kTQ0 (by kernel_rfl)
theorem e170:abEnv.fn 170=some Tryz.f170:=by kernel_rfl
theorem e171:abEnv.fn 171=some Tryz.f171:=by kernel_rfl
theorem e172:abEnv.fn 172=some Tryz.f172:=by kernel_rfl
theorem e173:abEnv.fn 173=some Tryz.f173:=by kernel_rfl
theorem e174:abEnv.fn 174=some Tryz.f174:=by kernel_rfl
theorem t305:TQ4 305 (.slice 259) false 1 [.slice none 0 0]:=kTQ4 (by kernel_rfl)
theorem e175:abEnv.fn 175=some Tryz.f175:=by kernel_rfl
theorem e176:abEnv.fn 176=some Tryz.f176:=by kernel_rfl
theorem e177:abEnv.fn 177=some Tryz.f177:=by kernel_rfl
theorem e178:abEnv.fn 178=some Tryz.f178:=by kernel_rfl
theorem e179:abEnv.fn 179=some Tryz.f179:=by kernel_rfl
theorem e180:abEnv.fn 180=some Tryz.f180:=by kernel_rfl
theorem e181:abEnv.fn 181=some Tryz.f181:=by kernel_rfl
theorem e182:abEnv.fn 182=some Tryz.f182:=by kernel_rfl
theorem e187:abEnv.fn 187=some Tryz.f187:=by kernel_rfl
theorem t320:TQ4 320 (.slice 328) false 1 [.slice none 0 0]:=kTQ4 (by kernel_rfl)
theorem t328:TQ3 328 true 2 [.int .i64 0,.int .i64 0] [(0,1),(1,1)]:=kTQ3 (by kernel_rfl)
theorem r328:TR4 328 0 1:=⟨fun _ _ _=>⟨rfl,rfl⟩,fun _ _=>⟨rfl,rfl⟩⟩
theorem e328E:dK zB 328 16 2 [.int .i64 0,.int .i64 0]:=⟨⟨_,rfl,by kernel_rfl,by kernel_rfl⟩,t328.2.2.1,rfl⟩
theorem e188:abEnv.fn 188=some Tryz.f188:=by kernel_rfl
theorem e189:abEnv.fn 189=some Tryz.f189:=by kernel_rfl
theorem e190:abEnv.fn 190=some Tryz.f190:=by kernel_rfl
theorem e191:abEnv.fn 191=some Tryz.f191:=by kernel_rfl
theorem e192:abEnv.fn 192=some Tryz.f192:=by kernel_rfl
theorem e193:abEnv.fn 193=some Tryz.f193:=by kernel_rfl
theorem e194:abEnv.fn 194=some Tryz.f194:=by kernel_rfl
theorem e195:abEnv.fn 195=some Tryz.f195:=by kernel_rfl
theorem e196:abEnv.fn 196=some Tryz.f196:=by kernel_rfl
theorem e197:abEnv.fn 197=some Tryz.f197:=by kernel_rfl
theorem e198:abEnv.fn 198=some Tryz.f198:=by kernel_rfl
theorem e199:abEnv.fn 199=some Tryz.f199:=by kernel_rfl
theorem e200:abEnv.fn 200=some Tryz.f200:=by kernel_rfl
theorem e201:abEnv.fn 201=some Tryz.f201:=by kernel_rfl
theorem e202:abEnv.fn 202=some Tryz.f202:=by kernel_rfl
theorem e203:abEnv.fn 203=some Tryz.f203:=by kernel_rfl
theorem e204:abEnv.fn 204=some Tryz.f204:=by kernel_rfl
theorem e209:abEnv.fn 209=some Tryz.f209:=by kernel_rfl
theorem e210:abEnv.fn 210=some Tryz.f210:=by kernel_rfl
theorem e211:abEnv.fn 211=some Tryz.f211:=by kernel_rfl
theorem e212:abEnv.fn 212=some Tryz.f212:=by kernel_rfl
theorem t306:TQ0 306 false 1 [.nilFunc]:=kTQ0 (by kernel_rfl)
theorem e213:abEnv.fn 213=some Tryz.f213:=by kernel_rfl
theorem e214:abEnv.fn 214=some Tryz.f214:=by kernel_rfl
theorem e218:abEnv.fn 218=some Tryz.f218:=by kernel_rfl
theorem t344:TQ5 344 (.pointer 322) false 1 [.pointer none]:=kTQ5 (by kernel_rfl)
theorem e219:abEnv.fn 219=some Tryz.f219:=by kernel_rfl
theorem e220:abEnv.fn 220=some Tryz.f220:=by kernel_rfl
theorem e221:abEnv.fn 221=some Tryz.f221:=by kernel_rfl
theorem t296:TQ0 296 false 1 [.nilFunc]:=kTQ0 (by kernel_rfl)
theorem e222:abEnv.fn 222=some Tryz.f222:=by kernel_rfl
theorem t331:TQ0 331 false 1 [.nilFunc]:=kTQ0 (by kernel_rfl)
theorem e223:abEnv.fn 223=some Tryz.f223:=by kernel_rfl
theorem e224:abEnv.fn 224=some Tryz.f224:=by kernel_rfl
theorem e225:abEnv.fn 225=some Tryz.f225:=by kernel_rfl
theorem e226:abEnv.fn 226=some Tryz.f226:=by kernel_rfl
theorem e227:abEnv.fn 227=some Tryz.f227:=by kernel_rfl
theorem e228:abEnv.fn 228=some Tryz.f228:=by kernel_rfl
theorem e229:abEnv.fn 229=some Tryz.f229:=by kernel_rfl
theorem e230:abEnv.fn 230=some Tryz.f230:=by kernel_rfl
theorem e231:abEnv.fn 231=some Tryz.f231:=by kernel_rfl
theorem e232:abEnv.fn 232=some Tryz.f232:=by kernel_rfl
theorem e233:abEnv.fn 233=some Tryz.f233:=by kernel_rfl
theorem e235:abEnv.fn 235=some Tryz.f235:=by kernel_rfl
theorem e236:abEnv.fn 236=some Tryz.f236:=by kernel_rfl
theorem e237:abEnv.fn 237=some Tryz.f237:=by kernel_rfl
theorem e238:abEnv.fn 238=some Tryz.f238:=by kernel_rfl
theorem e239:abEnv.fn 239=some Tryz.f239:=by kernel_rfl
theorem t351:TQ0 351 false 1 [.nilFunc]:=kTQ0 (by kernel_rfl)
theorem e240:abEnv.fn 240=some Tryz.f240:=by kernel_rfl
theorem e241:abEnv.fn 241=some Tryz.f241:=by kernel_rfl
theorem e242:abEnv.fn 242=some Tryz.f242:=by kernel_rfl
theorem e243:abEnv.fn 243=some Tryz.f243:=by kernel_rfl
theorem e244:abEnv.fn 244=some Tryz.f244:=by kernel_rfl
theorem e245:abEnv.fn 245=some Tryz.f245:=by kernel_rfl
theorem e246:abEnv.fn 246=some Tryz.f246:=by kernel_rfl
theorem e247:abEnv.fn 247=some Tryz.f247:=by kernel_rfl
theorem e248:abEnv.fn 248=some Tryz.f248:=by kernel_rfl
theorem e249:abEnv.fn 249=some Tryz.f249:=by kernel_rfl
theorem e250:abEnv.fn 250=some Tryz.f250:=by kernel_rfl
theorem e251:abEnv.fn 251=some Tryz.f251:=by kernel_rfl
end Tryz
end Go.Ab

end
section
namespace Go.Ab
section
variable(A:List Arc)(f:Arc->Nat)
def outs(j v:Nat):List Nat:=(Xi j).filter fun i=>decide (f (A.getD i default)=v)
def start:Nat->Nat
 |0=>0
 |v+1=>start v+(outs A f A.length v).length
theorem iI(j v:Nat):outs A f (j+1) v=outs A f j v++(if f (A.getD j default)=v then [j]else []):=by
 simp_all[outs,XS,List.filter_append,default,List.filter_cons,List.filter_nil,decide_true,if_true]
theorem outs_pre{j k:Nat}(h:j<=k)(v:Nat): ∃l,outs A f k v=outs A f j v++l:=by
 induction k with
 |zero=>simp_all
 | succ k a=>
   by_cases b:j=k+1
   . simp_all
   grind[iI,Xq]
theorem xP{j k:Nat}(h:j<=k)(v:Nat):(outs A f j v).length<=(outs A f k v).length:=by
 obtain⟨l,a⟩:=outs_pre A f h v
 grind
theorem start_eq(v:Nat):start A f v=((Xi A.length).filter fun i=>decide (f (A.getD i default)<v)).length:=by
 have a: ∀(l:List Nat) (v:Nat),(l.filter fun i=>decide (f (A.getD i default)<v+1)).length=(l.filter fun i=>decide (f (A.getD i default)<v)).length+(l.filter fun i=>decide (f (A.getD i default)=v)).length:=by
  intro l v
  induction l with
  |nil=>rfl
  | cons x l b=>
    grind
 induction v with
 |zero=>rw [start];symm;simp_all
 |succ v b=>rw [start,b,a];rfl
theorem qH(v:Nat):start A f v+(outs A f A.length v).length<=A.length:=by
 have:=start_eq A f (v+1)
 grind[start,XC,List.length_filter_le]
theorem wS{u v:Nat}(h:u<v):start A f u+(outs A f A.length u).length<=start A f v:=by
 induction v with
 |zero=>omega
 | succ v a=>
   rw [start]
   grind
theorem Bf{u v r s:Nat}(b:r<(outs A f A.length u).length)(c:s<(outs A f A.length v).length)(h:start A f u+r=start A f v+s):u=v/\r=s:=by
 rcases Nat.lt_trichotomy u v with a|a|a
 . have:=wS A f a;omega
 . grind
 . have:=wS A f a;omega
end
def eO(x:Nat):List Value:=[.int .i64 x]
theorem iq(x:Nat):(eO x).length=1:=rfl
def gU(h:Hp)(m:Nat)(v:Value)(N:Nat)(R:Nat->List Nat):Prop:=
 ∃a b,v=.slice (some ⟨a,0,none⟩) N N/\m<=a/\Row h a b 1/\b.length=N/\ ∀i,i<N-> ∃w,b[i]? =some w/\ay h 1 eO w (R i)/\ ∀c,aq w c->m<=c
theorem gU.mo{M:Nat->Prop}{h d:Hp}{v:Value}{m N:Nat}{R:Nat->List Nat}(r:gU h m v N R)(g:Mo M h d)(s: ∀b,M b->b<m):gU d m v N R:=by
 obtain⟨f,e,j,t,k,l,n⟩:=r
 refine⟨f,e,j,by omega,g.has (o:=.row e 1) k (fun h=>by grind),l,fun i p=>?_⟩
 obtain⟨w,a,b,c⟩:=n i p
 exact⟨w,a,b.mo g fun x q u=>by grind,fun x q=>by grind⟩
theorem gU.gr{h a:Hp}{v:Value}{m N:Nat}{R:Nat->List Nat}(g:Gr h a)(r:gU h m v N R):gU a m v N R:=
 r.mo (M:=NoM) g.fr (fun _ h=>h.elim)
theorem gU.low{h:Hp}{v:Value}{m a N:Nat}{R:Nat->List Nat}(r:gU h m v N R)(g:a<=m):gU h a v N R:=by
 obtain⟨b,c,d,j,e,f,k⟩:=r
 exact⟨b,c,d,by omega,e,f,fun i l=>by
  grind⟩
structure bW(h:Hp)(m:Nat)(p:Value)(γ:Gra):Prop where
 ex: ∃b vx vy va vo vi,p=ptrTo b/\Row h b [.int .i64 γ.nodes,vx,vy,va,vo,vi] 1/\cZ h vx vy va γ/\gU h m vo γ.nodes (outs γ.arcs Arc.s γ.arcs.length)/\gU h m vi γ.nodes (outs γ.arcs Arc.t γ.arcs.length)/\m<=b/\ ∀c,aq vx c\/aq vy c\/aq va c->m<=c
theorem cZ.mo{M:Nat->Prop}{h i:Hp}{b d e:Value}{j:Gra}(a:cZ h b d e j)(g:Mo M h i)(f: ∀c,aq b c\/aq d c\/aq e c-> ¬M c):cZ i b d e j:=
 ⟨a.X.mo g fun c h=>f c (.inl h),a.Y.mo g fun c h=>f c (.inr (.inl h)),a.A.mo g fun c h=>f c (.inr (.inr h))⟩
theorem bW.mo{M:Nat->Prop}{h a:Hp}{m:Nat}{p:Value}{d:Gra}(n:bW h m p d)(g:Mo M h a)(e: ∀b,M b->b<m):bW a m p d:=by
 obtain⟨b,f,i,j,k,l,q,r,s,t,u,v,w⟩:=n.ex
 exact⟨b,f,i,j,k,l,q,g.has (o:=.row _ 1) r (fun h=>by grind),s.mo g (fun c x y=>by grind),t.mo g e,u.mo g e,v,w⟩
theorem bW.gr{h a:Hp}{m:Nat}{p:Value}{b:Gra}(n:bW h m p b)(g:Gr h a):bW a m p b:=n.mo (M:=NoM) g.fr (fun _ h=>h.elim)
theorem kA{a:Type}{N k:Nat}{F F':Nat->a}(b: ∀i,i<N->i≠k->F' i=F i):((Xi N).map F).set k (F' k)=(Xi N).map F':=by
 refine XN fun i=>?_
 grind
theorem mS{a:Type}{N k:Nat}{F:Nat->a}(b:k<N):((Xi N).map F)[k]? =some (F k):=by simp [b]
end Go.Ab

end
section
namespace Go.Ab
def kR(r:Nat):Nat:=(r>>>1) ^^^(if r%2=1 then 3988292384 else 0)
def dD:Nat->Nat->Nat
 |0,r=>r
 |k+1,r=>dD k (kR r)
theorem crcN_succ(k r:Nat):dD (k+1) r=kR (dD k r):=by
 induction k generalizing r with
 |zero=>rfl
 |succ k a=>exact a (kR r)
theorem crcN_add(j k r:Nat):dD (j+k) r=dD j (dD k r):=by
 induction k generalizing r with
 |zero=>rfl
 |succ k a=>exact a (kR r)
theorem crcS_xor(a b:Nat):kR (a ^^^b)=kR a ^^^kR b:=by
 unfold kR
 rw [Nat.shiftRight_xor_distrib,show(a ^^^b)%2=(a%2) ^^^(b%2)from Nat.xor_mod_two_pow (n:=1)]
 rcases XL a with c|c<;>rcases XL b with d|d<;>
  simp only [c,d,Nat.xor_self,XW,Nat.zero_xor,if_true,if_false,Nat.reduceEqDiff,reduceIte]
 . ac_rfl
 . ac_rfl
 . rw [show a>>>1 ^^^3988292384 ^^^(b>>>1 ^^^3988292384)=a>>>1 ^^^b>>>1 ^^^(3988292384 ^^^3988292384) by ac_rfl,Nat.xor_self,XW]
theorem crcN_xor(k a b:Nat):dD k (a ^^^b)=dD k a ^^^dD k b:=by
 induction k generalizing a b with
 |zero=>rfl
 |succ k c=>show dD k _=dD k _ ^^^dD k _;rw [crcS_xor,c]
theorem crcN_pow(k x:Nat):dD k (2 ^k*x)=x:=by
 induction k generalizing x with
 |zero=>show 2 ^0*x=x;omega
 | succ k a=>
   have:kR (2 ^(k+1)*x)=2 ^k*x:=by
    unfold kR
    have e:2 ^(k+1)*x=2*(2 ^k*x):=by rw [XF,XP _ 2,Nat.mul_assoc]
    rw [e,if_neg (by omega),XW,Xt];omega
   show dD k (kR _)=x
   rw [this,a]
theorem split_pow(k r:Nat):r=(2 ^k*(r/2 ^k)) ^^^(r%2 ^k):=by
 refine Nat.eq_of_testBit_eq fun i=>?_
 rw [Nat.testBit_xor,Nat.testBit_two_pow_mul,Nat.testBit_mod_two_pow,Nat.testBit_div_two_pow]
 by_cases h:k<=i
 . simp [h,Nat.not_lt.2 h,Nat.sub_add_cancel h]
 . simp [h,Nat.lt_of_not_le h]
theorem xu(k r:Nat):dD k r=(r>>>k) ^^^dD k (r%2 ^k):=by
 have:=crcN_xor k (2 ^k*(r/2 ^k)) (r%2 ^k)
 rw [<-split_pow,crcN_pow,<-Xt]at this
 exact this
theorem crcS_lt{r:Nat}(h:r<4294967296):kR r<4294967296:=by
 unfold kR
 refine Xx (n:=32) ?_ ?_
 . rw [Xt];omega
 . split<;>decide
theorem xS{k r:Nat}(h:r<4294967296):dD k r<4294967296:=by
 induction k generalizing r with
 |zero=>exact h
 |succ k a=>exact a (crcS_lt h)
theorem xor_zero{a b:Nat}(h:a ^^^b=0):a=b:=by
 have:=congrArg (· ^^^b) h
 simpa [Nat.xor_assoc]using this
def crcB(r b:Nat):Nat:=dD 8 (r ^^^b)
def crcL(r:Nat)(l:List UInt8):Nat:=l.foldl (fun r b=>crcB r b.toNat) r
def crc(l:List UInt8):Nat:=4294967295 ^^^crcL 4294967295 l
theorem rW(b:UInt8):b.toNat<256:=b.toNat_lt
theorem crcB_lt{r:Nat}{b:UInt8}(h:r<4294967296):crcB r b.toNat<4294967296:=
 xS (Xx (n:=32) h (Nat.lt_trans (rW b) (by decide)))
theorem xz{l:List UInt8}{r:Nat}(h:r<4294967296):crcL r l<4294967296:=by
 induction l generalizing r with
 |nil=>exact h
 |cons b l a=>exact a (crcB_lt h)
theorem v7(l:List UInt8):crc l<4294967296:=Xx (n:=32) (by decide) (xz (by decide))
theorem BF(r:Nat)(l m:List UInt8):crcL r (l++m)=crcL (crcL r l) m:=List.foldl_append
theorem Bj(r b:Nat):crcB r b=(((r ^^^b)>>>4) ^^^dD 4 ((r ^^^b)%16))>>>4 ^^^dD 4 ((((r ^^^b)>>>4) ^^^dD 4 ((r ^^^b)%16))%16):=by
 unfold crcB
 rw [show(8:Nat)=4+4 from rfl,crcN_add,xu 4 (dD 4 _),xu 4 (r ^^^b)]
end Go.Ab

end
section
namespace Go.Ab
abbrev Bs:=List UInt8
def aR:Nat->Nat->Bs
 |0,_=>[]
 |k+1,n=>UInt8.ofNat n::aR k (n/256)
def bz:Bs->Nat
 | []=>0
 |b::l=>b.toNat+256*bz l
theorem aJ(k n:Nat):(aR k n).length=k:=by
 induction k generalizing n with
 |zero=>rfl
 |succ k a=>simp [aR,a]
theorem jI(l:Bs):bz l<256 ^l.length:=by
 induction l with
 |nil=>simp [bz]
 | cons b l a=>
   have:=rW b
   simp only [bz,Xs,XF]
   omega
theorem getN_putN(k n:Nat):bz (aR k n)=n%256 ^k:=by
 induction k generalizing n with
 |zero=>simp [aR,bz,Nat.mod_one]
 | succ k a=>
   have e:(UInt8.ofNat n).toNat=n%256:=by simp
   rw [aR,bz,e,a,show 256 ^(k+1)=256*256 ^k by rw [XF,XP],Nat.mod_mul]
theorem fZ{k n:Nat}(h:n<256 ^k):bz (aR k n)=n:=by rw [getN_putN,XE h]
theorem BI(l m:Bs):bz (l++m)=bz l+256 ^l.length*bz m:=by
 induction l with
 |nil=>simp [bz]
 | cons b l a=>
   simp only [List.cons_append,bz,a,Xs,XF]
   rw [Nat.mul_add,XP (256 ^l.length) 256,Nat.mul_assoc];omega
theorem putN_at{k n i:Nat}(h:i<k):(aR k n)[i]? =some (UInt8.ofNat (n/256 ^i)):=by
 induction k generalizing n i with
 |zero=>omega
 | succ k a=>
   cases i with
   |zero=>simp [aR]
   | succ i=>
     show(aR k (n/256))[i]? =_
     rw [a (by omega),Nat.div_div_eq_div_mul,show 256 ^(i+1)=256*256 ^i by rw [XF,XP]]
def eG:Bs:=[77,73,76,69,49,1]
abbrev Sec:=Nat×Bs
def kB(x:Sec):Bs:=aR 1 x.1++(aR 8 x.2.length++aR 4 (crc x.2))
def d6(l:List Sec):Bs:=eG++(aR 1 l.length++l.flatMap kB)
def oX(l:List Sec):Bs:=d6 l++(aR 4 (crc (d6 l))++l.flatMap Xy)
abbrev Ent:=Nat×Nat×Nat
def entD(s:Bs):Ent:=(bz (s.take 1),bz ((s.drop 1).take 8),bz ((s.drop 9).take 4))
def qF:Nat->Bs->List Ent
 |0,_=>[]
 |k+1,s=>entD s::qF k (s.drop 13)
def mw:List Ent->Bs->Option (List Sec)
 | [],_=>some []
 |(k,n,c)::a,s=>if crc (s.take n)=c then(mw a (s.drop n)).map ((k,s.take n):: ·)else none
def aK(s:Bs):Nat:=bz ((s.drop 6).take 1)
def i9(s:Bs):Prop:=s.take 6=eG/\7<=s.length/\aK s<=16/\11+13*aK s<=s.length/\bz ((s.drop (7+13*aK s)).take 4)=crc (s.take (7+13*aK s))/\
 ((qF (aK s) (s.drop 7)).map (·.2.1)).sum=s.length-(11+13*aK s)
noncomputable instance (s:Bs):Decidable (i9 s):=Classical.propDecidable _
noncomputable def decF(s:Bs):Except Bool (List Sec):=
 if i9 s then match mw (qF (aK s) (s.drop 7)) (s.drop (11+13*aK s))with
  |some l=>.ok l
  |none=>.error true
 else .error false
theorem AY(x:Sec):(kB x).length=13:=by simp [kB,aJ]
theorem yG(l:List Sec):(l.flatMap kB).length=13*l.length:=by
 induction l with
 |nil=>rfl
 |cons x l a=>rw [Xr,Xd,AY,a,Xs];omega
theorem oD(l:List Sec):(d6 l).length=7+13*l.length:=by
 simp only [d6,Xd,aJ,yG,eG,Xs,List.length_nil];omega
def secOk(x:Sec):Prop:=x.1<256/\x.2.length<18446744073709551616
theorem entD_entB{x:Sec}(h:secOk x)(r:Bs):entD (kB x++r)=(x.1,x.2.length,crc x.2):=by
 have c:=v7 x.2
 have b:(kB x++r).take 1=aR 1 x.1:=by
  unfold kB;rw [Xq,List.take_append_of_le_length (by rw [aJ];omega),XD (by rw [aJ];omega)]
 have a:(kB x++r).drop 1=aR 8 x.2.length++(aR 4 (crc x.2)++r):=by
  unfold kB;rw [Xq,Xq,zO (aJ 1 _)]
 have d:(kB x++r).drop 9=aR 4 (crc x.2)++r:=by
  rw [show(9:Nat)=1+8 from rfl,<-Xu,a,zO (aJ 8 _)]
 unfold entD
 rw [b,a,d,Xe (aJ 8 _),Xe (aJ 4 _),fZ (by have:=h.1;omega),fZ (by have:=h.2;omega),fZ (by omega)]
theorem uw{l:List Sec}(h: ∀x∈l,secOk x)(r:Bs):qF l.length (l.flatMap kB++r)=l.map fun x=>(x.1,x.2.length,crc x.2):=by
 induction l with
 |nil=>rfl
 | cons x l a=>
   rw [Xr,Xq,Xs,qF,entD_entB (h x (by simp)),zO (AY x),a (fun y b=>h y (by simp [b])),XM]
theorem bodsD_all(l:List Sec):mw (l.map fun x=>(x.1,x.2.length,crc x.2)) (l.flatMap Xy)=some l:=by
 induction l with
 |nil=>rfl
 | cons x l a=>
   rw [XM,Xr,mw,List.take_left,List.drop_left,if_pos rfl,a]
   rfl
theorem longs_sum(l:List Sec):((l.map fun x=>(x.1,x.2.length,crc x.2)).map (·.2.1)).sum=(l.flatMap Xy).length:=by
 induction l with
 |nil=>rfl
 |cons x l a=>simp only [XM,List.sum_cons,Xr,Xd]at a⊢;rw [a]
theorem BP(l:List Sec)(c:l.length<=16)(r:Bs):(d6 l++r).take 6=eG/\aK (d6 l++r)=l.length/\(d6 l++r).take (7+13*l.length)=d6 l/\(d6 l++r).drop (7+13*l.length)=r/\(d6 l++r).drop 7=l.flatMap kB++r:=by
 have a:d6 l++r=eG++(aR 1 l.length++(l.flatMap kB++r)):=by unfold d6;simp only [Xq]
 have b:(d6 l++r).drop 6=aR 1 l.length++(l.flatMap kB++r):=by rw [a];exact zO rfl
 refine⟨by rw [a];exact Xe rfl,?_,Xe (oD l),zO (oD l),?_⟩
 . unfold aK
   rw [b,Xe (aJ 1 _),fZ (by omega)]
 . rw [show(7:Nat)=6+1 from rfl,<-Xu,b,zO (aJ 1 _)]
theorem decF_encF{l:List Sec}(f:l.length<=16)(h: ∀x∈l,secOk x):decF (oX l)=.ok l:=by
 have c:=v7 (d6 l)
 unfold oX
 obtain⟨g,b,i,d,e⟩:=BP l f (aR 4 (crc (d6 l))++l.flatMap Xy)
 have j:(d6 l++(aR 4 (crc (d6 l))++l.flatMap Xy)).drop (11+13*l.length)=l.flatMap Xy:=by
  rw [show 11+13*l.length=7+13*l.length+4 by omega,<-Xu,d,zO (aJ 4 _)]
 have a:(d6 l++(aR 4 (crc (d6 l))++l.flatMap Xy)).length=11+13*l.length+(l.flatMap Xy).length:=by
  rw [Xd,Xd,oD,aJ];omega
 have k:i9 (d6 l++(aR 4 (crc (d6 l))++l.flatMap Xy)):=by
  refine⟨g,by omega,by omega,by omega,?_,?_⟩
  . rw [b,i,d,Xe (aJ 4 _),fZ (by omega)]
  . rw [b,e,uw h,longs_sum,a];omega
 unfold decF
 rw [if_pos k,b,e,j,uw h,bodsD_all]
theorem encF_len(l:List Sec):(oX l).length=11+13*l.length+(l.flatMap Xy).length:=by
 unfold oX;rw [Xd,Xd,oD,aJ];omega
end Go.Ab

end
section
namespace Go.Ab
def u64(x:Int):Nat:=(x%18446744073709551616).toNat
def i64(n:Nat):Int:=if n<9223372036854775808 then n else n-18446744073709551616
theorem i64_u64{x:Int}(h: -9223372036854775808<=x/\x<=9223372036854775807):i64 (u64 x)=x:=by
 unfold i64 u64;omega
theorem u64_lt(x:Int):u64 x<256 ^8:=by unfold u64;omega
def put8(x:Int):Bs:=aR 8 (u64 x)
def la(s:Bs):Int:=i64 (bz s)
theorem nv(x:Int):(put8 x).length=8:=aJ 8 _
theorem sX{x:Int}(h: -9223372036854775808<=x/\x<=9223372036854775807):la (put8 x)=x:=by
 unfold la put8;rw [fZ (u64_lt x),i64_u64 h]
def d7{a:Type}(f:Bs->a)(w:Nat):Nat->Bs->List a
 |0,_=>[]
 |k+1,s=>f (s.take w)::d7 f w k (s.drop w)
theorem yC{a:Type}(f:Bs->a)(w k:Nat)(s:Bs):(d7 f w k s).length=k:=by
 induction k generalizing s with
 |zero=>rfl
 |succ k b=>simp [d7,b]
theorem numsD_at{a:Type}(f:Bs->a)(w:Nat){k i:Nat}(s:Bs)(h:i<k):(d7 f w k s)[i]? =some (f ((s.drop (w*i)).take w)):=by
 induction k generalizing s i with
 |zero=>omega
 | succ k b=>
   cases i with
   |zero=>simp [d7]
   | succ i=>
     show(d7 f w k (s.drop w))[i]? =_
     rw [b _ (by omega),Xu,show w+w*i=w*(i+1) by rw [Nat.mul_succ];omega]
theorem qA{a:Type}{f:Bs->a}{p:a->Bs}{w:Nat}(b: ∀x,(p x).length=w)(l:List a)(h: ∀x∈l,f (p x)=x)(r:Bs):d7 f w l.length (l.flatMap p++r)=l:=by
 induction l with
 |nil=>rfl
 | cons x l c=>
   rw [Xr,Xq,Xs,d7,Xe (b x),zO (b x),h x (by simp),c (fun y d=>h y (by simp [d]))]
theorem dJ{a:Type}{p:a->Bs}{w:Nat}(b: ∀x,(p x).length=w)(l:List a):(l.flatMap p).length=w*l.length:=by
 induction l with
 |nil=>rfl
 |cons x l c=>rw [Xr,Xd,b,c,Xs,Nat.mul_succ];omega
def xyB(p:Int×Int):Bs:=put8 p.1++put8 p.2
def xyG(s:Bs):Int×Int:=(la (s.take 8),la ((s.drop 8).take 8))
def ju(a:Arc):Bs:=aR 4 a.s++(aR 4 a.t++aR 4 a.w)
def arcG(s:Bs):Arc:=⟨bz (s.take 4),bz ((s.drop 4).take 4),bz ((s.drop 8).take 4)⟩
theorem pN(p:Int×Int):(xyB p).length=16:=by simp [xyB,nv]
theorem rO(a:Arc):(ju a).length=12:=by simp [ju,aJ]
def I64(x:Int):Prop:= -9223372036854775808<=x/\x<=9223372036854775807
theorem xyG_xyB{p:Int×Int}(b:I64 p.1)(c:I64 p.2):xyG (xyB p)=p:=by
 have a:=nv p.1
 have d:=nv p.2
 unfold xyG xyB
 rw [Xe a,zO a,XD (by omega),sX b,sX c]
theorem arcG_arcB{a:Arc}(c:a.s<4294967296)(d:a.t<4294967296)(e:a.w<4294967296):arcG (ju a)=a:=by
 have f:(ju a).take 4=aR 4 a.s:=by unfold ju;exact Xe (aJ 4 _)
 have b:(ju a).drop 4=aR 4 a.t++aR 4 a.w:=by unfold ju;exact zO (aJ 4 _)
 have g:(ju a).drop 8=aR 4 a.w:=by rw [show(8:Nat)=4+4 from rfl,<-Xu,b];exact zO (aJ 4 _)
 unfold arcG
 rw [f,b,g,Xe (aJ 4 _),XD (by rw [aJ];omega),fZ c,fZ d,fZ e]
def fj(a:Gra):Bs:=aR 4 a.nodes++(aR 4 a.arcs.length++((a.X.zip a.Y).flatMap xyB++a.arcs.flatMap ju))
def jC(s:Bs):Nat:=bz (s.take 4)
def rX(s:Bs):Nat:=bz ((s.drop 4).take 4)
def graG(s:Bs):Gra:=⟨jC s,(d7 xyG 16 (jC s) (s.drop 8)).map Prod.fst,(d7 xyG 16 (jC s) (s.drop 8)).map Xy,d7 arcG 12 (rX s) (s.drop (8+16*jC s))⟩
structure RightG(γ:Gra):Prop where
 n1:1<=γ.nodes
 cX: ∀x∈γ.X,-2147483648<=x/\x<=2147483647
 cY: ∀x∈γ.Y,-2147483648<=x/\x<=2147483647
 arcs: ∀a∈γ.arcs,a.s<γ.nodes/\a.t<γ.nodes/\a.w<=2147483647
structure BodyG(s:Bs):Prop where
 l8:8<=s.length
 n2:jC s<=16777216
 m2:rX s<=67108864
 len:s.length=8+16*jC s+12*rX s
theorem graG_graB{b:Gra}(n:b.X.length=b.nodes)(o:b.Y.length=b.nodes)(h:RightG b)(q:b.nodes<=16777216)(r:b.arcs.length<=67108864):BodyG (fj b)/\graG (fj b)=b:=by
 have c:(b.X.zip b.Y).length=b.nodes:=by rw [List.length_zip];omega
 have i:(fj b).take 4=aR 4 b.nodes:=by unfold fj;exact Xe (aJ 4 _)
 have e:(fj b).drop 4=aR 4 b.arcs.length++((b.X.zip b.Y).flatMap xyB++b.arcs.flatMap ju):=by unfold fj;exact zO (aJ 4 _)
 have f:(fj b).drop 8=(b.X.zip b.Y).flatMap xyB++b.arcs.flatMap ju:=by rw [show(8:Nat)=4+4 from rfl,<-Xu,e];exact zO (aJ 4 _)
 have j:jC (fj b)=b.nodes:=by unfold jC;rw [i,fZ (by omega)]
 have k:rX (fj b)=b.arcs.length:=by unfold rX;rw [e,Xe (aJ 4 _),fZ (by omega)]
 have el:(fj b).length=8+16*b.nodes+12*b.arcs.length:=by
  simp only [fj,Xd,aJ,dJ pN,dJ rO,c];omega
 have l:(fj b).drop (8+16*b.nodes)=b.arcs.flatMap ju:=by
  rw [<-Xu,f];exact zO (by rw [dJ pN,c])
 refine⟨⟨by omega,by omega,by omega,by omega⟩,?_⟩
 have m:d7 xyG 16 b.nodes ((b.X.zip b.Y).flatMap xyB++b.arcs.flatMap ju)=b.X.zip b.Y:=by
  have:=qA pN (b.X.zip b.Y) (fun p g=>xyG_xyB (by have:=h.cX p.1 (List.of_mem_zip g).1;unfold I64;omega) (by have:=h.cY p.2 (List.of_mem_zip g).2;unfold I64;omega)) (b.arcs.flatMap ju)
  rw [c]at this;exact this
 have d:d7 arcG 12 b.arcs.length (b.arcs.flatMap ju)=b.arcs:=by
  have:=qA rO b.arcs (fun a d=>by
   have:=h.arcs a d
   have:=h.n1
   exact arcG_arcB (by omega) (by omega) (by omega)) []
  rw [List.append_nil]at this;exact this
 unfold graG
 rw [j,k,f,l,m,d,List.map_fst_zip (by omega),List.map_snd_zip (by omega)]
end Go.Ab

end
section
namespace Go.Ab
theorem hf_u{k:IntKind}(h:sgn k=false):hf k=pw k:=by cases k<;>first|rfl|cases h
theorem wrapN{k:IntKind}(h:sgn k=false)(n:Nat):am k (n:Int)=((n%pw k:Nat):Int):=by
 show am k (.ofNat n)=_
 simp only [am,hf_u h,h]
 cases a:XT n (pw k)with
 |true=>rw [XO]at a;rw [cond_true,XE a];rfl
 |false=>rfl
theorem cC{k:IntKind}(h:sgn k=false){n:Nat}(a:n<pw k):am k (n:Int)=(n:Int):=by rw [wrapN h,XE a]
section
variable{E:Env}{t:TypeId}{p q:Operand}{x y:Nat}{k k':IntKind}
theorem bitsU(op:BinOp)(a:x<pw k)(b:y<pw k):iz op k (x:Int) (y:Int)=match op with
 | .and=>some (am k ((x&&& y:Nat):Int))
 | .or=>some (am k ((x|||y:Nat):Int))
 | .xor=>some (am k ((x ^^^y:Nat):Int))
 | .andNot=>some (am k ((x ^^^(x&&& y):Nat):Int))
 |_=>none:=by
 show iz op k (.ofNat x) (.ofNat y)=_
 have c:XT x (pw k)=true:=by rw [XO];exact a
 have d:XT y (pw k)=true:=by rw [XO];exact b
 unfold iz
 simp only [c,d,Bool.and_self,cond_true]
 cases op<;>rfl
theorem pw_two(k:IntKind):pw k=2 ^bitsOf k:=by cases k<;>rfl
theorem s8(h:sgn k=false)(a:x<pw k)(b:y<pw k):a9 E .and t p q (.int k (x:Int)) (.int k (y:Int))=some (.int k ((x&&& y:Nat):Int)):=by
 show(bif iR k k then(iz .and k (x:Int) (y:Int)).map (Value.int k ·)else none)=_
 rw [bitsU .and a b,eu]
 simp only [cC h (Nat.lt_of_le_of_lt Nat.and_le_left a)];rfl
theorem b_orN(h:sgn k=false)(a:x<pw k)(b:y<pw k):a9 E .or t p q (.int k (x:Int)) (.int k (y:Int))=some (.int k ((x|||y:Nat):Int)):=by
 show(bif iR k k then(iz .or k (x:Int) (y:Int)).map (Value.int k ·)else none)=_
 have:x|||y<pw k:=by rw [pw_two]at a b⊢;exact Nat.or_lt_two_pow a b
 rw [bitsU .or a b,eu]
 simp only [cC h this];rfl
theorem we(h:sgn k=false)(a:x<pw k)(b:y<pw k):a9 E .xor t p q (.int k (x:Int)) (.int k (y:Int))=some (.int k ((x ^^^y:Nat):Int)):=by
 show(bif iR k k then(iz .xor k (x:Int) (y:Int)).map (Value.int k ·)else none)=_
 have:x ^^^y<pw k:=by rw [pw_two]at a b⊢;exact Xx a b
 rw [bitsU .xor a b,eu]
 simp only [cC h this];rfl
theorem xm(a:y<=bitsOf k):a9 E .shr t p q (.int k (x:Int)) (.int k' (y:Int))=some (.int k ((x>>>y:Nat):Int)):=by
 show(mH .shr k (.ofNat x) (.ofNat y)).map (Value.int k ·)=_
 simp only [mH,fe,Xz a,cond_true,shrI,XG]
 rw [Xt];rfl
theorem vG(h:sgn k=false)(a:y<=bitsOf k):a9 E .shl t p q (.int k (x:Int)) (.int k' (y:Int))=some (.int k ((x*2 ^y%pw k:Nat):Int)):=by
 show(mH .shl k (x:Int) (.ofNat y)).map (Value.int k ·)=_
 simp only [mH,fe,Xz a,cond_true,XG]
 rw [show(x:Int)*Int.ofNat (Nat.pow 2 y)=((x*2 ^y:Nat):Int) by rw [Int.natCast_mul];rfl,wrapN h]
theorem u_xorU(h:sgn k=false)(a:x<pw k):unP .xor (.int k (x:Int))=some (.int k (((pw k-1) ^^^x:Nat):Int)):=by
 have c:0<pw k:=by cases k<;>decide
 have:(pw k-1) ^^^x<pw k:=by
  have b:pw k-1<pw k:=by omega
  rw [pw_two]at a b⊢;exact Xx b a
 simp only [unP,h,cond_false]
 rw [show(Int.ofNat (pw k-1))=((pw k-1:Nat):Int)from rfl,bitsU .xor (by omega) a]
 simp only [cC h this];rfl
end
def sv(l:Bs):Value:=.string (eV l)
theorem fm(l:Bs):aB (eV l)=l:=rfl
theorem nH(l:Bs):(eV l).size=l.length:=rfl
theorem qq{l:Bs}:Fl (sv l):=fl_str
def aY(l:Bs):List Value:=l.map fun b=>.int .u8 (b.toNat:Int)
theorem eP(l:Bs):(aY l).length=l.length:=by simp [aY]
theorem kX(l m:Bs):aY (l++m)=aY l++aY m:=by simp [aY]
theorem ot(l:Bs):(aY l).all iL=true:=by simp [aY,iL]
theorem zQ(l:Bs):bytesOf (aY l)=some l:=by
 induction l with
 |nil=>rfl
 | cons b l a=>
   show(match bytesOf (aY l)with|none=>none|some r=>some (UInt8.ofNat b.toNat::r))=_
   rw [a]
   simp only [UInt8.ofNat_toNat]
section
variable{E:Env}{t e:TypeId}{p q:Operand}{h:Hp}{l m:Bs}
theorem fV:mR (some .string) h (sv l)=some (.val (.int .i64 (l.length:Int)),h):=rfl
theorem uA(l m:Bs):ez l m=decide (l=m):=by
 induction l generalizing m with
 |nil=>cases m<;>simp [ez]
 | cons a l c=>
   cases m with
   |nil=>simp [ez]
   |cons b m=>simp only [ez,c,List.cons.injEq];by_cases h:a=b<;>simp [h,UInt8.toNat_inj]
theorem b_add_sv(a:l.length+m.length<=1099511627776):a9 E .add t p q (sv l) (sv m)=some (sv (l++m)):=by
 simp only [sv,a9,nH,Xz a,cond_true,fm]
theorem AF:a9 E .eql t p q (sv l) (sv m)=some (.bool (decide (l=m))):=by simp only [sv,a9,fm,uA]
theorem nG{k:IntKind}{i n:Nat}(h:i<n):iT (.int k (i:Int)) n=some i:=fE h
theorem p7(b:E.und t=some .string){k:IntKind}{i:Nat}(a:i<l.length):kj E t (sv l) (.int k (i:Int))=some (.int .u8 (l[i].toNat:Int)):=by
 simp only [sv,kj,b,nH,fE a,fm,Xv a];rfl
theorem qL{k:IntKind}{n y:Nat}(a:n<=y):dL (.int k (n:Int)) y=some n:=by
 show(match fe (.ofNat n)with|some n=>bif Nat.ble n y then some n else none|none=>none)=_
 simp only [fe,Xz a,cond_true]
theorem slice_sv(c:E.und t=some .string){k k':IntKind}{a b:Nat}(d:a<=b)(f:b<=l.length):cJ E t (sv l) (some (.int k (a:Int))) (some (.int k' (b:Int))) none=some (sv ((l.take b).drop a)):=by
 simp only [sv,cJ,c,XX,cond_false,dl,nH,qL f,qL d,fm]
 rw [<-List.drop_take]
theorem BL(a:E.und t=some .string){k:IntKind}{b:Nat}(c:b<=l.length):cJ E t (sv l) none (some (.int k (b:Int))) none=some (sv (l.take b)):=by
 simp only [sv,cJ,a,XX,cond_false,dl,nH,qL c,fm,XK,Nat.sub_zero]
theorem src_sv:aA h 1 (sv l)=some (l.length,aY l):=rfl
def BySl(h:Hp)(v:Value)(l:Bs):Prop:=ay h 1 (fun(b:UInt8)=>[Value.int .u8 (b.toNat:Int)]) v l
theorem byF(l:Bs):l.flatMap (fun(b:UInt8)=>[Value.int .u8 (b.toNat:Int)])=aY l:=by
 induction l with
 |nil=>rfl
 |cons b l a=>rw [Xr,a];rfl
theorem A3{v:Value}(s:BySl h v l):strOf h v=some (sv l):=by
 rcases s with⟨rfl,rfl⟩|⟨b,o,s,c,rfl,d,a⟩
 . rfl
 . rw [Xk,byF]at a
   simp only [strOf,a,zQ];rfl
end
theorem qQ{E:Env}{t e:TypeId}{n b many:Nat}{k:IntKind}(a:E.und t=some (.array n e))(c:E.sz e=some 1)(h:many<=n):cJ E t (.pointer (some ⟨b,0,none⟩)) none (some (.int k (many:Int))) none=some (.slice (some ⟨b,0,none⟩) many n):=by
 simp only [cJ,a,c,dl,qL h,Nat.sub_zero,Xg,Nat.add_zero]
 cases Nat.beq n 0<;>rfl
theorem oE{E:Env}{t:TypeId}{p q:Operand}{k k':IntKind}{x:Nat}(h:8<=bitsOf k):a9 E .shr t p q (.int k (x:Int)) (.int k' 8)=some (.int k ((x>>>8:Nat):Int)):=xm (y:=8) h
theorem b_shr4{E:Env}{t:TypeId}{p q:Operand}{k k':IntKind}{x:Nat}(h:4<=bitsOf k):a9 E .shr t p q (.int k (x:Int)) (.int k' 4)=some (.int k ((x>>>4:Nat):Int)):=xm (y:=4) h
def li(n i:Nat):List Value:=(Xi 8).map fun j=>.int .u8 ((if j<i then n/256 ^j%256 else 0:Nat):Int)
theorem j9(n i:Nat):(li n i).length=8:=by simp [li]
theorem sg{n i:Nat}:(li n i).set i (.int .u8 ((n/256 ^i%256:Nat):Int))=li n (i+1):=by
 unfold li
 have:=kA (N:=8) (k:=i) (F:=fun j=>Value.int .u8 ((if j<i then n/256 ^j%256 else 0:Nat):Int)) (F':=fun j=>Value.int .u8 ((if j<i+1 then n/256 ^j%256 else 0:Nat):Int)) (fun j _ a=>by
  by_cases h:j<i
  . rw [if_pos h,if_pos (by omega)]
  . rw [if_neg h,if_neg (by omega)])
 rw [<-this,if_pos (by omega)]
theorem qv{n many:Nat}(h:many<=8):(li n 8).take many=aY (aR many n):=by
 refine XN fun j=>?_
 unfold li aY
 rw [List.getElem?_take,Xl,Xl]
 by_cases a:j<many
 . rw [if_pos a,List.getElem?_range (by omega),putN_at a,XG,XG,if_pos (by omega)]
   simp
 . rw [if_neg a,List.getElem?_eq_none (l:=aR many n) (by rw [aJ];omega)];rfl
theorem set_self{a:Type}{l:List a}{i:Nat}{x:a}(h:l[i]? =some x):l.set i x=l:=by
 refine XN fun j=>?_
 rw [List.getElem?_set]
 split
 . rename_i e;subst e
   have:=(List.getElem?_eq_some_iff.1 h).1
   rw [if_pos this,h]
 . rfl
theorem dH{a:Type}{l:List a}{i:Nat}{x y:a}(h:l[i]? =some y):(l.set i x)[i]? =some x:=by
 rw [List.getElem?_set,if_pos rfl,if_pos (List.getElem?_eq_some_iff.1 h).1]
theorem set_set{a:Type}{l:List a}{i:Nat}{x y:a}:(l.set i x).set i y=l.set i y:=List.set_set ..
theorem wrap_u64(x:Int):am .u64 x=(u64 x:Int):=by
 cases x with
 |ofNat m=>exact(wrapN rfl m).trans (by unfold u64;rw [show Int.ofNat m=(m:Int)from rfl];simp only [pw];omega)
 |negSucc m=>show((pw .u64-1-m%pw .u64:Nat):Int)=_;unfold u64;simp only [pw];omega
theorem wrap_i64{n:Nat}(h:n<18446744073709551616):am .i64 (n:Int)=i64 n:=by
 show am .i64 (.ofNat n)=_
 unfold i64
 simp only [am,hf,pw,sgn,cond_true,XE h]
 by_cases a:n<9223372036854775808
 . have:XT n 9223372036854775808=true:=by rw [XO];exact a
   rw [this,if_pos a];rfl
 . have:XT n 9223372036854775808=false:=by
    cases b:XT n 9223372036854775808 with
    |false=>rfl
    |true=>rw [XO]at b;omega
   rw [this,if_neg a]
   simp only [cond_false];omega
end Go.Ab

end
section
namespace Go.Ab
open Go.Proofs
set_option maxRecDepth 10000
def Z0:=aj t7<|r7
def Z1:=aj t37<|r37
def Z2:=aj t8<|r8
def Z3:=aj t164<|r164
def Z4:=aj t90<|r90
def Z5:=aj t150<|r150
def Z6:=aj t13<|r13
def Z7:=aj t193<|r193
def Z8:=aj t166<|r166
def Z9:=aj t140<|r140
def Z10:=aj t14<|r14
def Z11:=aj t50<|r50
def Z12:=aj t322<|r322
def Z13:=aj t176<|r176
def Z14:=aj t76<|r76
def Z15:=aj t354<|r354
def Z16:=aj t328<|r328
def Z17:=aj t126<|r126
def Z18:=aj t364<|r364
def Z19:=aj t324<|r324
def Z20:=aj t218<|r218
def Z21:=aj t259<|r259
def Z22:=aj t19<|r19
def Z23:=aj t18<|r18
def Tryz.F09:=aj t1<|aj t2<|aj t3<|aj t4<|aj t29<|aj Z21<|aj t305<|t306
theorem values{a:Hp}(e:a.t.Sized a.n){v:Value}(f:Fl v):Ret zB 212 [v] a fun r d=>Gr a d/\ ∃b,r=.func (.func 233) #[] #[ptrTo b]/\a.n<=b/\d.load b 0 1=some [v]:=by
 have S:=Si e
 refine ab (n:=4) (rs:=[.tmp 2]) rfl Tryz.e212 rfl rfl rfl (lbt rfl) ?_
 simp only [BS,Nat.reduceLT]
 refine ag (da (by assumption)) S ?_;clear S;intro h b S c
 simp only [BS,LB,ae,Nat.reduceLT,Nat.reduceEqDiff]
 exact⟨S.gr,b,rfl,c,S.ld m0 rfl⟩
theorem uH{g:Hp}(d:g.t.Sized g.n){v:Value}{b:Nat}{ps:List Pl}(z:g.load b 0 1=some [v])(r:ay g 6 jR v ps)(t:ps.length<1000):
 Iter zB 233 [] [ptrTo b] g (fun c=>c=b\/aq v c) (ps.map fun p=>[.agg ⟨jR p⟩]):=by
 refine ue fun A J Z Y h F s l=>?_
 refine enter (n:=16) (rs:=[]) rfl Tryz.e233 rfl rfl rfl (lbt rfl) ?_
 have m:=s.load d z (.inl rfl)
 have f:=s.sl d r (fun b h=>.inr h)
 simp only [BS,LB,Nat.reduceLT,F09,m,f.lenq]
 refine az (fun(i:Nat) j h=>i<=ps.length/\ ∃F,ItS g (fun c=>c=b\/aq v c) h F/\J i h F/\j 0=.func (.yield A) #[] #[]/\j 5=v/\j 6=.int .i64 ps.length/\j 7=.int .i64 i) (fun i=>ps.length-i) ?_ 0 _ _ ?_
 . intro i B j h ⟨hi,F,s,l,r0,r5,r6,r7⟩
   by_cases hlt:i<ps.length
   . have f:=s.sl d r (fun b h=>.inr h)
     obtain⟨c,o,k,q⟩:=f.ix (kd:=.i64) encP_len hlt
     have S:=Si s.ok
     have w:am .i64 ((i:Int)+1)=((i+1:Nat):Int):=by rw [wrap64]<;>omega
     simp only [BS,LB,Nat.reduceLT,Nat.reduceEqDiff,F09,r5,r6,r7,an,hlt,k,q]
     refine ag av S ?_;clear S;intro h C S u
     simp only [BS,LB,Nat.reduceLT,Nat.reduceEqDiff,jR]
     refine aw (S.store (i:=0) rfl ?_ ?_ rfl rfl ?_ ono) ?_
     . exact(by exact Tryz.t259.2.1)
     . exact(by intro x e;cases e)
     . exact lbt rfl
     clear S;rintro h ⟨S,D⟩;clear D;simp only [LC,ah,lay,Xa,Xb,Nat.reduceAdd]at S
     simp only [BS,LB,Nat.reduceLT,Nat.reduceEqDiff,F09,r0,S.lds (b:=C) (o:=0) (n:=6) m0 (lbt rfl)]
     refine gx Y (s.gr S.gr) (Y.gr _ _ _ _ l S.gr) (i:=i) (by simp [hlt,jR]) ?_ ?_ ?_
     . intro y E a G _ _
       simp only [BS,LB,Nat.reduceLT,Nat.reduceEqDiff,r7,w]
       exact B (i+1) _ _ (by omega) ⟨by omega,E,G,a,by simp [aa,r0],by simp [aa,r5],by simp [aa,r6],by simp [aa]⟩
     . intro y a _
       simp only [BS,LB,Nat.reduceLT,Nat.reduceEqDiff]
       exact iE rfl ⟨rfl,.inr (.inl ⟨_,rfl,a⟩)⟩
     . intro v y a
       simp only [BS]
       exact du (cL ⟨rfl,.inr (.inr ⟨_,rfl,a⟩)⟩)
   . simp only [BS,LB,Nat.reduceLT,r6,r7,an,hlt]
     have:i=ps.length:=by omega
     subst this
     exact di (cL ⟨rfl,_,rfl,rfl,.inl ⟨_,F,rfl,by simpa using l⟩⟩)
 . exact⟨by omega,F,s,l,by simp [aa,cw],by simp [aa],by simp [aa],by simp [aa]⟩
def Tryz.F1c:=aj t1<|aj t2<|aj t3<|aj t4<|aj t5<|aj t29<|aj t253<|aj Z21<|t305
def Tryz.F1d:=aj t1<|aj t2<|aj t3<|aj t4<|aj t5<|aj t23<|aj t29<|aj t35<|aj Z1<|aj Z4<|aj t253<|aj Z21<|t305
def Tryz.FJ:=aj t1<|aj t2<|aj t3<|aj t4<|aj t5<|aj t6<|aj Z0<|aj Z2<|aj t23<|aj t29<|aj t35<|aj Z1<|aj Z4<|aj Z21<|t306
def nS(f g:Nat)(v:Value)(h:Hp):Prop:= ∃d a b,∃(e:List Pl) (D:Nat->Prop),v=.func (.func d) a b/\Iter zB d a.toList b.toList h D (e.map fun p=>[.agg ⟨jR p⟩])/\(∀p∈e,p.lo<=p.n/\p.n<p.hi)/\ ∀c,D c->c<f\/g<=c
theorem one_ok{a:Hp}(m:a.t.Sized a.n){c n d f:Int}(r:d<=n)(s:n<f):
 Ret zB 175 [.int .i64 c,.int .i64 n,.int .i64 d,.int .i64 f] a fun v k=>Gr a k/\nS 0 a.n v k:=by
 have S:=Si m
 refine ab (n:=16) (rs:=[.tmp 8]) rfl Tryz.e175 rfl rfl rfl (lbt rfl) ?_
 simp only [BS,LB,Nat.reduceLT,Nat.reduceEqDiff,Nat.reduceAdd,F1c]
 refine ag (bj (by exact Tryz.t305.1) (by exact Tryz.e259E) (by decide) (by rfl)) S ?_;clear S;intro h b S i;simp only [LC,aU,bA,ah,Nat.reduceMul,Nat.reduceAdd,Xg,Xf,Xk,Xn]at S
 simp only [BS,LB,Nat.reduceLT,Nat.reduceEqDiff]
 have q:=S.fr.n
 refine step_ret (values S.ok cd) ?_;intro v h ⟨g,b2,e,n2,l2⟩;replace S:=S.call g;clear g
 subst e
 simp only [BS,LB,ae,Nat.reduceLT,Nat.reduceEqDiff]
 have t:ay h 6 jR (.slice (some ⟨b,0,none⟩) 1 1) [⟨0,0,c,n,d,f⟩]:=.inr ⟨b,0,none,1,rfl,XY _,S.lds (b:=b) (o:=0) (n:=1*6) m0 (lbt rfl)⟩
 exact⟨S.gr,_,#[],#[ptrTo b2],_,_,rfl,uH S.ok l2 t (by simp),by intro p l;simp at l;subst l;exact⟨r,s⟩,fun c j=>by rcases j with rfl|j;exact .inr (by omega);cases j;exact .inr i⟩
theorem shapes_ok{f:Hp}(y:f.t.Sized f.n){a:Gra}(d:fo a){l m r:Value}(s:cZ f l m r a):
 Ret zB 177 [iP a l m r] f fun v t=>Gr f t/\nS 0 f.n v t:=by
 have S:=Si y
 have B:=d.n1
 have C:=d.n2
 have w:am .i64 ((a.nodes:Int)+1)=((a.nodes+1:Nat):Int):=by rw [wrap64]<;>omega
 refine ab (n:=22) (rs:=[.tmp 2]) rfl Tryz.e177 rfl rfl rfl (lbt rfl) ?_
 simp only [BS,Nat.reduceLT,iP]
 refine ag (bU (by intro x e;cases e)) S ?_;clear S;intro h b S z;simp only [ah]at S
 simp only [BS,LB,Nat.reduceLT,Nat.reduceEqDiff,Nat.reduceAdd,F1d,s.X.lenq,s.Y.lenq,w,S.ld (b:=b) (o:=0) m0 rfl,S.ld (b:=b) (o:=1) m0 rfl,S.ld (b:=b) (o:=2) m0 rfl]
 refine ag (bj (by exact Tryz.t305.1) (by exact Tryz.e259E) (by decide) (by rfl)) S ?_;clear S;intro h j S i;simp only [LC,aU,bA,ah,Nat.reduceMul,Nat.reduceAdd,Xg,Xf,Xk,Xn]at S
 simp only [BS,LB,Nat.reduceLT,Nat.reduceEqDiff]
 have q:=S.fr.n
 refine step_ret (values S.ok cd) ?_;intro v h ⟨g,b2,e,n2',l2⟩;replace S:=S.call g;clear g
 subst e
 simp only [BS,LB,ae,Nat.reduceLT,Nat.reduceEqDiff]
 have A:ay h 6 jR (.slice (some ⟨j,0,none⟩) 2 2) [⟨0,0,6,a.X.length,a.nodes,(a.nodes+1:Nat)⟩,⟨0,1,6,a.Y.length,a.nodes,(a.nodes+1:Nat)⟩]:=.inr ⟨j,0,none,2,rfl,XY _,S.lds (b:=j) (o:=0) (n:=2*6) m0 (lbt rfl)⟩
 refine⟨S.gr,_,#[],#[ptrTo b2],_,_,rfl,uH S.ok l2 A (by simp),?_,fun c k=>by rcases k with rfl|k;exact .inr (by omega);cases k;exact .inr i⟩
 intro p u
 have:=d.lX
 have:=d.lY
 simp at u
 rcases u with rfl|rfl<;>(simp only [];omega)
theorem nodes_ok{a:Hp}(k:a.t.Sized a.n){d f g i:Value}:Ret zB 179 [.agg ⟨[i,d,f,g]⟩] a fun v j=>Gr a j/\ ∃b,v=.func (.func 213) #[] #[ptrTo b]/\a.n<=b/\Row j b [i,d,f,g] 1:=by
 have S:=Si k
 refine ab (n:=4) (rs:=[.tmp 2]) rfl Tryz.e179 rfl rfl rfl (lbt rfl) ?_
 simp only [BS,Nat.reduceLT]
 refine ag (bU (by intro x e;cases e)) S ?_;clear S;intro h b S c;simp only [ah]at S
 simp only [BS,LB,ae,Nat.reduceLT,Nat.reduceEqDiff]
 exact⟨S.gr,b,rfl,c,S.row m0⟩
theorem arcs_ok{a:Hp}(k:a.t.Sized a.n){d f g i:Value}:Ret zB 182 [.agg ⟨[i,d,f,g]⟩] a fun v j=>Gr a j/\ ∃b,v=.func (.func 214) #[] #[ptrTo b]/\a.n<=b/\Row j b [i,d,f,g] 1:=by
 have S:=Si k
 refine ab (n:=4) (rs:=[.tmp 2]) rfl Tryz.e182 rfl rfl rfl (lbt rfl) ?_
 simp only [BS,Nat.reduceLT]
 refine ag (bU (by intro x e;cases e)) S ?_;clear S;intro h b S c;simp only [ah]at S
 simp only [BS,LB,ae,Nat.reduceLT,Nat.reduceEqDiff]
 exact⟨S.gr,b,rfl,c,S.row m0⟩
def plN(X Y:List Int):List Pl:=(Xi X.length).flatMap fun(i:Nat)=>[⟨i,0,7,X.getD i 0,-2147483648,2147483648⟩,⟨i,1,7,Y.getD i 0,-2147483648,2147483648⟩]
theorem plN_len(X Y:List Int):(plN X Y).length=2*X.length:=by
 unfold plN
 rw [XB]
 simp [XH]
 omega
theorem plN_at(X Y:List Int){i:Nat}(c:i<X.length):(plN X Y)[2*i]? =some ⟨i,0,7,X.getD i 0,-2147483648,2147483648⟩/\(plN X Y)[2*i+1]? =some ⟨i,1,7,Y.getD i 0,-2147483648,2147483648⟩:=by
 unfold plN
 have b: ∀(n j:Nat) (f:Nat->Pl) (k:Nat->Pl),j<n->((Xi n).flatMap fun i=>[f i,k i])[2*j]? =some (f j)/\((Xi n).flatMap fun i=>[f i,k i])[2*j+1]? =some (k j):=by
  intro n
  induction n with
  |zero=>intro j f k d;omega
  | succ n e=>
    intro j f k d
    have a:((Xi n).flatMap fun i=>[f i,k i]).length=2*n:=by rw [XB];simp [XH];omega
    rw [XS,Xm]
    by_cases h:j<n
    . rw [Xp (by omega),Xp (by omega)];exact e j f k h
    . have:j=n:=by omega
      subst this
      rw [Xo (by omega),Xo (by omega),a]
      simp
 exact b _ _ _ _ c
theorem Ch{f:Hp}(d:f.t.Sized f.n){m r L M:Value}{b:Nat}{X Y:List Int}(u:Row f b [M,m,r,L] 1)(H:ay f 1 (encI .i64) m X)(N:ay f 1 (encI .i64) r Y)(hl:X.length=Y.length)(I:X.length<1000):
 Iter zB 213 [] [ptrTo b] f (fun c=>c=b\/aq m c\/aq r c) ((plN X Y).map fun p=>[.agg ⟨jR p⟩]):=by
 refine ue fun O J Z x h F s t=>?_
 refine enter (n:=38) (rs:=[]) rfl Tryz.e213 rfl rfl rfl (lbt rfl) ?_
 have y:=s.load d (u.load1 (o:=1) rfl) (.inl rfl)
 simp only [BS,LB,Nat.reduceLT,Nat.reduceEqDiff,FJ,y,H.lenq]
 refine az (fun(i:Nat) j h=>i<=X.length/\ ∃F,ItS f (fun c=>c=b\/aq m c\/aq r c) h F/\J (2*i) h F/\j 0=.func (.yield O) #[] #[]/\j 1=ptrTo b/\j 8=.int .i64 X.length/\j 9=.int .i64 i) (fun i=>X.length-i) ?_ 0 _ _ ?_
 . intro i P j h ⟨hi,F,s,t,r0,r1,r8,r9⟩
   by_cases hlt:i<X.length
   . have z:=s.sl d H (fun b h=>.inr (.inl h))
     have A:=s.sl d N (fun b h=>.inr (.inr h))
     have y:=s.load d (u.load1 (o:=1) rfl) (.inl rfl)
     have Q:=s.load d (u.load1 (o:=2) rfl) (.inl rfl)
     obtain⟨c,o,k,B⟩:=z.ix (kd:=.i64) (aH _) hlt
     obtain⟨c2,o2,g,l⟩:=A.ix (kd:=.i64) (aH _) (i:=i) (by omega)
     have S:=Si s.ok
     have w:am .i64 ((i:Int)+1)=((i+1:Nat):Int):=by rw [wrap64]<;>omega
     simp only [BS,LB,Nat.reduceLT,Nat.reduceEqDiff,r8,r9,an,hlt]
     refine au (ax rfl) (q:=1024) (ps:=[]) (by kernel_rfl) ?_
     simp only [BS,LB,cls,Nat.reduceLT,Nat.reduceEqDiff,Nat.reduceAdd,Nat.reducePow,Nat.reduceDiv,Nat.reduceMod,Nat.reduceLeDiff,FJ,r1,y,Q,k,g,B,l,encI]
     refine ec (bj (by exact Tryz.t23.1) (by exact Tryz.e2E) (by decide) (by rfl)) S ?_;clear S;intro h e S C D;simp only [LC,aU,bA,ah,Nat.reduceMul,Nat.reduceAdd,Xg,Xf,Xk,Xn]at S
     simp only [BS,LB,cls,Nat.reduceLT,Nat.reduceEqDiff,Nat.reduceAdd,Nat.reducePow,Nat.reduceDiv,Nat.reduceMod,Nat.reduceLeDiff,Xj,FJ]
     have T:am .i64 1=1:=rfl
     have U:am .i64 2=2:=rfl
     have K:=plN_at X Y hlt
     rw [dB]
     simp only [BS,LB,Nat.reduceLT,Nat.reduceEqDiff,Nat.reduceAdd,Int.reduceToNat,Int.reduceLE,Int.reduceLT,Xj,FJ,r0,S.ld (b:=e) (o:=0) m0 rfl,S.ld (b:=e) (o:=1) m0 rfl]
     refine gx x (s.gr S.gr) (x.gr _ _ _ _ t S.gr) (i:=2*i) (by rw [Xl,K.1];simp [jR,Xh,hlt]) ?_ ?_ ?_
     . intro V F2 a W E _
       have nF:e∉F:=fun hm=>by have:=s.lt _ hm;omega
       have R:Row V e _ 1:=(S.row m0).of_get (E.get _ ((S.row m0).lt S.ok) nF)
       have R1:=R.load1 (o:=1) rfl
       have ad:True:=trivial
       simp only [BS,LB,Nat.reduceLT,Nat.reduceEqDiff,Int.reduceAdd,T]
       rw [dB]
       simp only [BS,LB,Nat.reduceLT,Nat.reduceEqDiff,Nat.reduceAdd,Int.reduceToNat,Int.reduceLE,Int.reduceLT,Xj,FJ,r0,R1]
       refine gx x W a (i:=2*i+1) (by rw [Xl,K.2];simp [jR,Xh,show i<Y.length by omega]) ?_ ?_ ?_
       . intro h3 F3 a s3 _ _
         simp only [BS,LB,Nat.reduceLT,Nat.reduceEqDiff,Int.reduceAdd,U]
         rw [dB]
         simp only [BS,LB,Nat.reduceLT,Nat.reduceEqDiff,Int.reduceLT,r9,w]
         exact P (i+1) _ _ (by omega) ⟨by omega,F3,s3,a,by simp [aa,r0],by simp [aa,r1],by simp [aa,r8],by simp [aa]⟩
       . intro G a _
         simp only [BS,LB,Nat.reduceLT,Nat.reduceEqDiff]
         exact iE rfl ⟨rfl,.inr (.inl ⟨_,rfl,a⟩)⟩
       . intro v G a
         simp only [BS]
         exact du (cL ⟨rfl,.inr (.inr ⟨_,rfl,a⟩)⟩)
     . intro G a _
       simp only [BS,LB,Nat.reduceLT,Nat.reduceEqDiff]
       exact iE rfl ⟨rfl,.inr (.inl ⟨_,rfl,a⟩)⟩
     . intro v G a
       simp only [BS]
       exact du (cL ⟨rfl,.inr (.inr ⟨_,rfl,a⟩)⟩)
   . simp only [BS,LB,Nat.reduceLT,r8,r9,an,hlt]
     have:i=X.length:=by omega
     subst this
     exact di (cL ⟨rfl,_,rfl,rfl,.inl ⟨_,F,rfl,by simpa [plN_len]using t⟩⟩)
 . exact⟨by omega,F,s,t,by simp [aa,cw],by simp [aa,cw,ac],by simp [aa],by simp [aa]⟩
def Tryz.Fg:=aj t1<|aj t2<|aj t3<|aj t4<|aj t5<|aj t6<|aj Z0<|aj Z2<|aj t9<|aj t23<|aj t29<|aj t35<|aj Z1<|aj Z4<|aj Z21<|aj t305<|t306
def plA(n:Nat)(A:List Arc):List Pl:=(Xi A.length).flatMap fun(i:Nat)=>[⟨i,0,9,(A.getD i default).s,0,n⟩,⟨i,1,9,(A.getD i default).t,0,n⟩,⟨i,2,10,(A.getD i default).w,0,2147483648⟩]
theorem flat3_at{b:Type}(f k l:Nat->b): ∀(n j:Nat),j<n->((Xi n).flatMap fun i=>[f i,k i,l i])[3*j]? =some (f j)/\((Xi n).flatMap fun i=>[f i,k i,l i])[3*j+1]? =some (k j)/\((Xi n).flatMap fun i=>[f i,k i,l i])[3*j+2]? =some (l j):=by
 intro n
 induction n with
 |zero=>intro j c;omega
 | succ n d=>
   intro j c
   have a:((Xi n).flatMap fun i=>[f i,k i,l i]).length=3*n:=by rw [XB];simp [XH];omega
   rw [XS,Xm]
   by_cases h:j<n
   . rw [Xp (by omega),Xp (by omega),Xp (by omega)];exact d j h
   . have:j=n:=by omega
     subst this
     rw [Xo (by omega),Xo (by omega),Xo (by omega),a]
     simp
theorem plA_len(n:Nat)(A:List Arc):(plA n A).length=3*A.length:=by
 unfold plA
 rw [XB]
 simp [XH]
 omega
theorem arcs_iter {j:Hp} (d:j.t.Sized j.n) {X Y q:Value} {b n:Nat} {A:List Arc} (K:Row j b [.int .i64 n,X,Y,q] 1) (L:ay j 3 cD q A) (M:A.length<1000):
 Iter zB 214 [] [ptrTo b] j (fun c=>c=b\/aq q c) ((plA n A).map fun p=>[.agg ⟨jR p⟩]):=by
 refine ue fun lb J Z k h F s u=>?_
 refine enter (n:=44) (rs:=[]) rfl Tryz.e214 rfl rfl rfl (lbt rfl) ?_
 have l0:=s.load d (K.load1 (o:=0) rfl) (.inl rfl)
 have l3:=s.load d (K.load1 (o:=3) rfl) (.inl rfl)
 simp only [BS,LB,Nat.reduceLT,Nat.reduceEqDiff,Fg,l0,l3,L.lenq]
 refine az (fun(i:Nat) l h=>i<=A.length/\ ∃F,ItS j (fun c=>c=b\/aq q c) h F/\J (3*i) h F/\l 0=.func (.yield lb) #[] #[]/\l 3=.int .i64 n/\l 11=q/\l 12=.int .i64 A.length/\l 13=.int .i64 i) (fun i=>A.length-i) ?_ 0 _ _ ?_
 . intro i ih l h ⟨hi,F,s,u,r0,r3,r11,r12,r13⟩
   by_cases hlt:i<A.length
   . have y:=s.sl d L (fun b h=>.inr h)
     obtain⟨c,o,r,z⟩:=y.ix (kd:=.i64) eo hlt
     have S:=Si s.ok
     have w:am .i64 ((i:Int)+1)=((i+1:Nat):Int):=by rw [wrap64]<;>omega
     have w1:am .i64 1=1:=rfl
     have w2:am .i64 2=2:=rfl
     have w3:am .i64 3=3:=rfl
     have B:=flat3_at (fun(i:Nat)=>(⟨i,0,9,(A.getD i default).s,0,n⟩:Pl)) (fun(i:Nat)=>⟨i,1,9,(A.getD i default).t,0,n⟩) (fun(i:Nat)=>⟨i,2,10,(A.getD i default).w,0,2147483648⟩) A.length i hlt
     have C:A.getD i default=A[i]:=by simp [Xh,hlt]
     simp only [BS,LB,Nat.reduceLT,Nat.reduceEqDiff,Fg,r11,r12,r13,an,hlt,r,z]
     refine ag av S ?_;clear S;intro h D S N
     simp only [BS,LB,Nat.reduceLT,Nat.reduceEqDiff,cD]
     refine aw (S.store (i:=0) rfl ?_ ?_ rfl rfl ?_ ono) ?_
     . exact(by exact Tryz.t90.2.1)
     . exact(by intro x e;cases e)
     . exact lbt rfl
     clear S;rintro h ⟨S,f⟩;clear f;simp only [LC,ah,lay,Xa,Xb,Nat.reduceAdd]at S
     simp only [BS,LB,Nat.reduceLT,Nat.reduceEqDiff,Nat.reduceAdd,Fg,r3,S.ld (b:=D) (o:=0) m0 rfl,S.ld (b:=D) (o:=1) m0 rfl,S.ld (b:=D) (o:=2) m0 rfl]
     refine ag (bj (by exact Tryz.t305.1) (by exact Tryz.e259E) (by decide) (by rfl)) S ?_;clear S;intro h g S O;simp only [LC,aU,bA,ah,Nat.reduceMul,Nat.reduceAdd,Xg,Xf,Xk,Xn]at S
     simp only [BS,LB,Nat.reduceLT,Nat.reduceEqDiff,Xj,Fg]
     have P:g∉F:=fun m=>by have:=s.lt _ m;omega
     have R:Row h g _ 1:=S.row m0
     have ad:=R.lt S.ok
     rw [dB]
     simp only [BS,LB,Nat.reduceLT,Nat.reduceEqDiff,Int.reduceToNat,Int.reduceLE,Int.reduceLT,Xj,Fg,S.lds (b:=g) (o:=0) (n:=6) m0 (lbt rfl)]
     refine ag av S ?_;clear S;intro h b7 S Q
     simp only [BS,LB,Nat.reduceLT,Nat.reduceEqDiff,XK,XJ,XU]
     refine aw (S.store (i:=0) rfl ?_ ?_ rfl rfl ?_ ono) ?_
     . exact(by exact Tryz.t259.2.1)
     . exact(by intro x e;cases e)
     . exact lbt rfl
     clear S;rintro h ⟨S,f⟩;clear f;simp only [LC,ah,lay,Xa,Xb,Nat.reduceAdd]at S
     simp only [BS,LB,Nat.reduceLT,Nat.reduceEqDiff,Fg,r0,S.lds (b:=b7) (o:=0) (n:=6) m0 (lbt rfl)]
     have R:Row h g _ 1:=S.row m1
     refine gx k (s.gr S.gr) (k.gr _ _ _ _ u S.gr) (i:=3*i) (by rw [Xl,show(plA n A)[3*i]? =_ from B.1,C];simp [jR]) ?_ ?_ ?_
     . intro h2 F2 a T E G
       have R0:=R
       replace R:Row h2 g _ 1:=R.of_get (E.get _ (R.lt S.ok) P)
       have H:g∉F2:=fun m=>by
        rcases G _ m with m|m
        . exact P m
        . have:=R0.lt S.ok;omega
       have S:=Si T.ok
       simp only [BS,LB,Nat.reduceLT,Nat.reduceEqDiff,Int.reduceAdd,w1]
       rw [dB]
       simp only [BS,LB,Nat.reduceLT,Nat.reduceEqDiff,Int.reduceToNat,Int.reduceLE,Int.reduceLT,Xj,Nat.reduceMul,Fg,R.load (o:=6) (n:=6) (lbt rfl)]
       refine ag av S ?_;clear S;intro h b8 S U
       simp only [BS,LB,Nat.reduceLT,Nat.reduceEqDiff,XV,XK,XJ,XU]
       refine aw (S.store (i:=0) rfl ?_ ?_ rfl rfl ?_ ono) ?_
       . exact(by exact Tryz.t259.2.1)
       . exact(by intro x e;cases e)
       . exact lbt rfl
       clear S;rintro h ⟨S,f⟩;clear f;simp only [LC,ah,lay,Xa,Xb,Nat.reduceAdd]at S
       simp only [BS,LB,Nat.reduceLT,Nat.reduceEqDiff,Fg,r0,S.lds (b:=b8) (o:=0) (n:=6) m0 (lbt rfl)]
       replace R:=R.gr S.gr
       refine gx k (T.gr S.gr) (k.gr _ _ _ _ a S.gr) (i:=3*i+1) (by rw [Xl,show(plA n A)[3*i+1]? =_ from B.2.1,C];simp [jR]) ?_ ?_ ?_
       . intro h3 F3 a V I af
         replace R:Row h3 g _ 1:=R.of_get (I.get _ (R.lt S.ok) H)
         have S:=Si V.ok
         simp only [BS,LB,Nat.reduceLT,Nat.reduceEqDiff,Int.reduceAdd,w2]
         rw [dB]
         simp only [BS,LB,Nat.reduceLT,Nat.reduceEqDiff,Int.reduceToNat,Int.reduceLE,Int.reduceLT,Xj,Nat.reduceMul,Fg,R.load (o:=12) (n:=6) (lbt rfl)]
         refine ag av S ?_;clear S;intro h b9 S W
         simp only [BS,LB,Nat.reduceLT,Nat.reduceEqDiff,XV,XK,XJ,XU]
         refine aw (S.store (i:=0) rfl ?_ ?_ rfl rfl ?_ ono) ?_
         . exact(by exact Tryz.t259.2.1)
         . exact(by intro x e;cases e)
         . exact lbt rfl
         clear S;rintro h ⟨S,f⟩;clear f;simp only [LC,ah,lay,Xa,Xb,Nat.reduceAdd]at S
         simp only [BS,LB,Nat.reduceLT,Nat.reduceEqDiff,Fg,r0,S.lds (b:=b9) (o:=0) (n:=6) m0 (lbt rfl)]
         refine gx k (V.gr S.gr) (k.gr _ _ _ _ a S.gr) (i:=3*i+2) (by rw [Xl,show(plA n A)[3*i+2]? =_ from B.2.2,C];simp [jR]) ?_ ?_ ?_
         . intro h4 F4 a s4 ai ak
           simp only [BS,LB,Nat.reduceLT,Nat.reduceEqDiff,Int.reduceAdd,w3]
           rw [dB]
           simp only [BS,LB,Nat.reduceLT,Nat.reduceEqDiff,Int.reduceLT,r13,w]
           exact ih (i+1) _ _ (by omega) ⟨by omega,F4,s4,a,by simp [aa,r0],by simp [aa,r3],by simp [aa,r11],by simp [aa,r12],by simp [aa]⟩
         . intro t a _
           simp only [BS,LB,Nat.reduceLT,Nat.reduceEqDiff]
           exact iE rfl ⟨rfl,.inr (.inl ⟨_,rfl,a⟩)⟩
         . intro v t a
           simp only [BS]
           exact du (cL ⟨rfl,.inr (.inr ⟨_,rfl,a⟩)⟩)
       . intro t a _
         simp only [BS,LB,Nat.reduceLT,Nat.reduceEqDiff]
         exact iE rfl ⟨rfl,.inr (.inl ⟨_,rfl,a⟩)⟩
       . intro v t a
         simp only [BS]
         exact du (cL ⟨rfl,.inr (.inr ⟨_,rfl,a⟩)⟩)
     . intro t a _
       simp only [BS,LB,Nat.reduceLT,Nat.reduceEqDiff]
       exact iE rfl ⟨rfl,.inr (.inl ⟨_,rfl,a⟩)⟩
     . intro v t a
       simp only [BS]
       exact du (cL ⟨rfl,.inr (.inr ⟨_,rfl,a⟩)⟩)
   . simp only [BS,LB,Nat.reduceLT,r12,r13,an,hlt]
     have:i=A.length:=by omega
     subst this
     exact di (cL ⟨rfl,_,rfl,rfl,.inl ⟨_,F,rfl,by simpa [plA_len]using u⟩⟩)
 . exact⟨by omega,F,s,u,by simp [aa,cw],by simp [aa],by simp [aa],by simp [aa],by simp [aa]⟩
def Tryz.F1e:=aj t1<|aj t2<|aj t3<|aj t23<|aj t29<|aj t35<|aj Z1<|aj Z4<|t253
def Tryz.F1f:=aj t1<|aj t2<|aj t3<|aj t23<|aj t35<|aj Z1<|aj Z4<|t253
def Tryz.F1g:=aj t1<|aj t2<|aj t3<|aj t23<|aj t29<|aj t35<|aj Z1<|aj Z4<|t253
def Tryz.F1h:=aj t1<|aj t2<|aj t3<|aj t23<|aj t35<|aj Z1<|aj Z4<|t253
def Tryz.F1i:=aj t1<|aj t2<|aj t3<|aj t23<|aj t35<|aj Z1<|aj Z4<|t253
theorem look1_ok{a:Hp}(f:a.t.Sized a.n){d:Gra}(c:fo d){i j k:Value}{b:Nat}(l:Row a b [.int .i64 d.nodes,i,j,k] 1):Ret zB 174 [ptrTo b] a fun v e=>Gr a e/\nS 0 a.n v e:=by
 have S:=Si f
 have m:=c.n1
 have p:=c.n2
 refine ab (n:=5) (rs:=[.tmp 1]) rfl Tryz.e174 rfl rfl rfl (lbt rfl) ?_
 simp only [BS,LB,Nat.reduceLT,Nat.reduceEqDiff,F1e,l.load1 (o:=0) rfl]
 refine step_ret (one_ok S.ok (by omega) (by omega)) ?_;intro v h ⟨g,t⟩;replace S:=S.call g;clear g
 simp only [BS,LB,ae,Nat.reduceLT,Nat.reduceEqDiff]
 exact⟨S.gr,t⟩
theorem look2_ok{a:Hp}(k:a.t.Sized a.n){c:Gra}(d:fo c){e f i:Value}(l:cZ a e f i c){b:Nat}(m:Row a b [.int .i64 c.nodes,e,f,i] 1):Ret zB 176 [ptrTo b] a fun v j=>Gr a j/\nS 0 a.n v j:=by
 have S:=Si k
 refine ab (n:=4) (rs:=[.tmp 1]) rfl Tryz.e176 rfl rfl rfl (lbt rfl) ?_
 simp only [BS,LB,Nat.reduceLT,Nat.reduceEqDiff,F1f,m.load (o:=0) (n:=4) (lbt rfl)]
 refine step_ret (shapes_ok S.ok d l) ?_;intro v h ⟨g,t⟩;replace S:=S.call g;clear g
 simp only [BS,LB,ae,Nat.reduceLT,Nat.reduceEqDiff]
 exact⟨S.gr,t⟩
theorem look4_ok{a:Hp}(k:a.t.Sized a.n){c:Gra}(d:fo c){e f i:Value}(l:cZ a e f i c){b:Nat}(m:Row a b [.int .i64 c.nodes,e,f,i] 1):Ret zB 180 [ptrTo b] a fun v j=>Gr a j/\nS 0 a.n v j:=by
 have S:=Si k
 have p:=d.many
 refine ab (n:=6) (rs:=[.tmp 1]) rfl Tryz.e180 rfl rfl rfl (lbt rfl) ?_
 simp only [BS,LB,Nat.reduceLT,Nat.reduceEqDiff,F1g,m.load1 (o:=3) rfl,l.A.lenq]
 refine step_ret (one_ok S.ok (by omega) (by omega)) ?_;intro v h ⟨g,t⟩;replace S:=S.call g;clear g
 simp only [BS,LB,ae,Nat.reduceLT,Nat.reduceEqDiff]
 exact⟨S.gr,t⟩
theorem look3_ok{d:Hp}(x:d.t.Sized d.n){f:Gra}(a:fo f){l m s:Value}(t:cZ d l m s f){b q:Nat}(y: ∀c,aq l c->c<q)(z: ∀c,aq m c->c<q)(A:Row d b [.int .i64 f.nodes,l,m,s] 1):Ret zB 178 [ptrTo b] d fun v u=>Gr d u/\nS q d.n v u:=by
 have S:=Si x
 have B:=a.n2
 have C:=a.lX
 have D:=a.lY
 refine ab (n:=4) (rs:=[.tmp 1]) rfl Tryz.e178 rfl rfl rfl (lbt rfl) ?_
 simp only [BS,LB,Nat.reduceLT,Nat.reduceEqDiff,F1h,A.load (o:=0) (n:=4) (lbt rfl)]
 refine step_ret (nodes_ok S.ok) ?_;intro v h ⟨g,b2,e,q2,R⟩;replace S:=S.call g;clear g
 subst e
 simp only [BS,LB,ae,Nat.reduceLT,Nat.reduceEqDiff]
 refine⟨S.gr,_,#[],#[ptrTo b2],_,_,rfl,Ch S.ok R (t.X.gr S.gr) (t.Y.gr S.gr) (by omega) (by omega),fun p r=>?_,fun c j=>?_⟩
 . unfold plN at r
   simp only [List.mem_flatMap,List.mem_range,List.mem_cons,List.not_mem_nil,or_false]at r
   obtain⟨i,w,rfl|rfl⟩:=r
   . have:=a.cX f.X[i] (XQ w)
     simp only [Xh,Xv w,XR];omega
   . have k:i<f.Y.length:=by omega
     have:=a.cY f.Y[i] (XQ k)
     simp only [Xh,Xv k,XR];omega
 . rcases j with rfl|j|j
   . exact .inr q2
   . exact .inl (y c j)
   . exact .inl (z c j)
theorem look5_ok{a:Hp}(u:a.t.Sized a.n){f:Gra}(d:fo f){m q j:Value}(w:cZ a m q j f){b r:Nat}(x: ∀c,aq j c->c<r)(y:Row a b [.int .i64 f.nodes,m,q,j] 1):Ret zB 181 [ptrTo b] a fun v s=>Gr a s/\nS r a.n v s:=by
 have S:=Si u
 have z:=d.many
 refine ab (n:=4) (rs:=[.tmp 1]) rfl Tryz.e181 rfl rfl rfl (lbt rfl) ?_
 simp only [BS,LB,Nat.reduceLT,Nat.reduceEqDiff,F1i,y.load (o:=0) (n:=4) (lbt rfl)]
 refine step_ret (arcs_ok S.ok) ?_;intro v h ⟨g,b2,e,q2,R⟩;replace S:=S.call g;clear g
 subst e
 simp only [BS,LB,ae,Nat.reduceLT,Nat.reduceEqDiff]
 refine⟨S.gr,_,#[],#[ptrTo b2],_,_,rfl,arcs_iter S.ok R (w.A.gr S.gr) (by omega),fun p k=>?_,fun c l=>?_⟩
 . unfold plA at k
   simp only [List.mem_flatMap,List.mem_range,List.mem_cons,List.not_mem_nil,or_false]at k
   obtain⟨i,t,h⟩:=k
   have:=d.arcs f.arcs[i] (XQ t)
   simp only [Xh,Xv t,XR]at h
   rcases h with rfl|rfl|rfl<;>(simp only [];omega)
 . rcases l with rfl|l
   . exact .inr q2
   . exact .inl (x c l)
def Tryz.FK:=aj t1<|aj t2<|aj t3<|aj t4<|aj t5<|aj t6<|aj Z0<|aj Z2<|aj t17<|aj Z22<|aj t20<|aj t23<|aj t29<|aj t35<|aj Z1<|aj Z4<|aj Z17<|aj t128<|aj t203<|aj r203<|aj t253<|aj t255<|aj t257<|aj Z21<|Z18
theorem look_ok {s:Hp} (A:s.t.Sized s.n) {Q:Gra} (l:fo Q) {vx vy va:Value} (B:cZ s vx vy va Q):Ret zB 127 [iP Q vx vy va] s fun v f=>Gr s f:=by
 have S:=Si A
 refine ab (n:=44) (rs:=[]) rfl Tryz.e127 rfl rfl rfl (lbt rfl) ?_
 simp only [BS,Nat.reduceLT,iP]
 refine ag (bU (by intro x e;cases e)) S ?_;clear S;intro h b S aL;simp only [ah]at S
 simp only [BS,LB,Nat.reduceLT,Nat.reduceEqDiff]
 refine ag (bj (by exact Tryz.t257.1) (by exact Tryz.e255E) (by decide) (by rfl)) S ?_;clear S;intro h bs S af;simp only [LC,aU,bA,ah,Nat.reduceMul,Nat.reduceAdd,Xg,Xf,Xk,Xn]at S
 simp only [BS,LB,Nat.reduceLT,Nat.reduceEqDiff,Xj,FK]
 have R: ∀i,i<5-> ∃g a c,[Value.func (.func 174) #[] #[.pointer (some ⟨b,0,none⟩)],.func (.func 176) #[] #[.pointer (some ⟨b,0,none⟩)],.func (.func 178) #[] #[.pointer (some ⟨b,0,none⟩)],.func (.func 180) #[] #[.pointer (some ⟨b,0,none⟩)],.func (.func 181) #[] #[.pointer (some ⟨b,0,none⟩)]][i]? =some (.func (.func g) a c)/\
  ∀f,Gr h f->Ret zB g (a.toList++c.toList) f fun v k=>Gr f k/\nS s.n f.n v k:=by
  intro i hi
  have t:=S.row (b:=b) m1
  have r:=B.gr S.gr
  have T: ∀f v k,Gr f k/\nS 0 f.n v k->Gr f k/\nS s.n f.n v k:=by
   rintro f v k ⟨a,U,a1,V,J,D,b1,b2,b3,C⟩
   exact⟨a,U,a1,V,J,D,b1,b2,b3,fun c u=>(C c u).elim (fun h=>by omega) .inr⟩
  match i,hi with
  |0,_=>exact⟨_,_,_,rfl,fun f g=>iS (look1_ok g.ok l (t.gr g)) (T f)⟩
  |1,_=>exact⟨_,_,_,rfl,fun f g=>iS (look2_ok g.ok l (r.gr g) (t.gr g)) (T f)⟩
  |2,_=>exact⟨_,_,_,rfl,fun f g=>look3_ok g.ok l (r.gr g) (fun c u=>B.X.lt A u) (fun c u=>B.Y.lt A u) (t.gr g)⟩
  |3,_=>exact⟨_,_,_,rfl,fun f g=>iS (look4_ok g.ok l (r.gr g) (t.gr g)) (T f)⟩
  |4,_=>exact⟨_,_,_,rfl,fun f g=>look5_ok g.ok l (r.gr g) (fun c u=>B.A.lt A u) (t.gr g)⟩
 have K:=S.row (b:=bs) m0
 have g0:=S.gr
 have E:=S.ok
 clear S B A
 revert R K
 generalize [Value.func (.func 174) #[] #[.pointer (some ⟨b,0,none⟩)],.func (.func 176) #[] #[.pointer (some ⟨b,0,none⟩)],.func (.func 178) #[] #[.pointer (some ⟨b,0,none⟩)],.func (.func 180) #[] #[.pointer (some ⟨b,0,none⟩)],.func (.func 181) #[] #[.pointer (some ⟨b,0,none⟩)]]=fs
 intro R K
 rename Hp=>G
 have a0:=K.lt E
 have a3:=g0.n
 have S:=Si E
 refine qO (fun(i:Nat) M d f=>i<=5/\ ∃j:List Nat,d=j.map qN/\St NoM G f (dm j) []/\M 10=.slice (some ⟨bs,0,none⟩) 5 5/\M 11=.int .i64 5/\M 12=.int .i64 i) (fun i=>5-i) ?_ 0 _ _ _ ?_
 . clear S
   intro i ih M d h ⟨hi,j,N,S,r10,r11,r12⟩
   have w:am .i64 ((i:Int)+1)=((i+1:Nat):Int):=by rw [wrap64]<;>omega
   by_cases hlt:i<5
   . obtain⟨g,a,c,W,t⟩:=R i hlt
     have Rl:=(K.gr S.gr).load1 W
     have m:(i:Int)<5:=by omega
     simp only [BS,LB,Nat.reduceLT,Nat.reduceEqDiff,FK,r10,r11,r12,m,hlt,Rl]
     refine ag av S ?_;clear S;intro h b2 S ai
     simp only [BS,LB,Nat.reduceLT,Nat.reduceEqDiff]
     refine aw (ar S (i:=0) rfl ?_ ?_ ?_ ono) ?_
     . exact(by simp only [FK])
     . exact(by exact cg)
     . exact Xc (lbt rfl)
     clear S;rintro h ⟨S,Y⟩;clear Y;simp only [LC,ah,lay,Xa,Xb,Nat.reduceAdd]at S
     simp only [BS,LB,Nat.reduceLT,Nat.reduceEqDiff]
     replace S:=S.drop1
     have kl: ∀b∈keys (dm j) [],b<h.n:=fun b q=>S.key_lt q
     refine step_ret (t _ S.gr) ?_;intro v h ⟨g,U,V,post,J,D,e,it,hps,hD⟩;replace S:=S.call g;clear g
     subst e
     simp only [BS]
     refine jm S (g:=U) (a:=V) (b:=post) (by simp [bZ,aa]) rfl rfl ?_
     intro O H I z a4 a5 g2
     obtain⟨X,hX,z⟩: ∃X:gm,X=_/\St NoM G O ((I,.loop X)::(H,.dfr)::dm j) []:=⟨_,rfl,z⟩
     have hJ:Yld zB I (fun _ f F=>St NoM G f ((I,.loop X)::(H,.dfr)::dm j) []/\F=keys ((I,.loop X)::(H,.dfr)::dm j) []) (fun _ _=>False) (J.map fun p=>[.agg ⟨jR p⟩]):=by
      refine⟨?_,?_,fun _ _ h=>h.elim,?_⟩
      . rintro i h F ⟨S,rfl⟩;exact⟨S.ok,fun b q=>S.key_lt q⟩
      . rintro i h F f ⟨S,rfl⟩ g;exact⟨S.call g,rfl⟩
      . rintro i x h F hx ⟨S,rfl⟩
        obtain⟨p,hp,rfl⟩: ∃p∈J,x=[.agg ⟨jR p⟩]:=by
         rw [Xl,Option.map_eq_some_iff]at hx
         obtain⟨p,G,O⟩:=hx
         exact⟨p,XI G,O.symm⟩
        obtain⟨p1,p2⟩:=hps p hp
        have Z: ¬p.n<p.lo:=by omega
        have ad: ¬p.hi<=p.n:=by omega
        subst hX
        refine jn (S.get m0) (by rw [Tryz.e127];rfl) rfl ?_
        have S0:=S
        replace S:=S.base
        simp only [BS,FK]
        refine ag av S ?_;clear S;intro h C S ak
        simp only [BS,LB,Nat.reduceLT,Nat.reduceEqDiff,jR]
        refine aw (S.store (i:=0) rfl ?_ ?_ rfl rfl ?_ ono) ?_
        . exact(by exact Tryz.t259.2.1)
        . exact(by intro x e;cases e)
        . exact lbt rfl
        clear S;rintro h ⟨S,Y⟩;clear Y;simp only [LC,ah,lay,Xa,Xb,Nat.reduceAdd]at S
        simp only [BS]
        refine iN S (i:=1) rfl rfl rfl rfl rfl ?_
        clear S;intro h S
        simp only [BS,LB,Nat.reduceLT,Nat.reduceEqDiff,FK,Z,ad,S.ld (b:=C) (o:=3) m0 rfl,S.ld (b:=C) (o:=4) m0 rfl,S.ld (b:=C) (o:=5) m0 rfl]
        refine fk S (i:=1) rfl ?_
        clear S;intro h S
        exact .inl ⟨rfl,_,⟨S0.rebase S.drop1,rfl⟩,S.fr,S.drop1.key_new⟩
     refine eJ (Ac it hJ (h:=O) (F:=keys ((I,.loop _)::(H,.dfr)::dm j) []) g2.fr (fun b q hlt=>?_) ⟨z,rfl⟩) fun o rc f y=>lS y ?_
     . intro N
       have P:=z.key_own q
       rcases hD b N with hh|hh
       . rcases P with P|P
         . omega
         . exact P
       . rcases List.mem_cons.1 q with rfl|q
         . omega
         . rcases List.mem_cons.1 q with rfl|q
           . omega
           . have:=kl b q;omega
     . rintro F ⟨S,rfl⟩
       subst hX
       refine⟨_,S.get m0,Nat.zero_ne_one,?_⟩
       replace S:=S.dead
       show Run _ _ _ _ _ _ _ _
       simp only [BS,LB,Nat.reduceLT,Nat.reduceEqDiff,r12,w]
       exact ih (i+1) _ _ _ (by omega) ⟨by omega,H::j,by rw [N];rfl,S,by simp [aa,r10],by simp [aa,r11],by simp [aa]⟩
   . have m: ¬(i:Int)<5:=by omega
     simp only [BS,LB,Nat.reduceLT,r11,r12,m]
     subst N
     refine di (fW j h (L:=[]) (by rw [List.append_nil];exact S) fun f z=>⟨rfl,_,rfl,g0.trans z.gr⟩)
 . exact⟨by omega,[],rfl,S,by simp [aa],by simp [aa],by simp [aa]⟩
end Go.Ab
end
section
namespace Go.Ab
theorem ay.form{d:Type}{h:Hp}{k:Nat}{enc:d->List Value}{v:Value}{xs:List d}(s:ay h k enc v xs): ∃a n c,v=.slice a n c:=by
 rcases s with⟨rfl,_⟩|⟨b,o,s,c,rfl,_⟩<;>exact⟨_,_,_,rfl⟩
section
variable{M:Nat->Prop}{h0 h:Hp}{E:Env}{L:List (Nat×Ob)}{G:List GL}
def WrK{a:Type}(h:Hp)(k:Nat)(enc:a->List Value)(w:Value)(l:List a):Prop:=l≠ []-> ∃b,w=.slice (some ⟨b,0,some k⟩) l.length l.length/\Row h b (l.flatMap enc) 1
theorem WrK.mo{a:Type}{M:Nat->Prop}{h c:Hp}{k:Nat}{enc:a->List Value}{w:Value}{l:List a}(r:WrK h k enc w l)(g:Mo M h c)(d: ∀b,aq w b-> ¬M b):WrK c k enc w l:=
 fun f=>by obtain⟨b,e,k⟩:=r f;exact⟨b,e,g.has (o:=.row _ 1) k (d b (by rw [e];rfl))⟩
theorem St.cloneW{m:Type}{enc:m->List Value}{ys:List m}(S:St M h0 h L G){t i e:TypeId}{d k md:Nat}{A:List Value}{b:Nat}{x:Value}(o:E.und t=some (.slice e))(p:dK E e d k A)(q:0<d)
 (r:dR E i=some false) (s:ay h k enc x ys) (f: ∀x,(enc x).length=k) (u:0<k) (g:(ys.length*k)*(d+1)<=70368744177664) {ts:List TypeId}
 (v:Row h b [] md):
 ∃a v',dp E h (t::i::ts) (.slice (some ⟨b,0,none⟩) 0 0) x=some (a,v')/\St M h0 a L G/\Gr h a/\ay a k enc v' ys/\(∀c,aq v' c->c=b\/h.n<=c)/\WrK a k enc v' ys:=by
 obtain⟨a,v',w,B,C,D,F⟩:=S.cloneSl (enc:=enc) (xs:=[]) o p q r s f u (by simpa using g) (ts:=ts) (b:=b) (md:=md) (by simpa using v)
 refine⟨a,v',w,B,C,by simpa using D,F,fun j=>?_⟩
 obtain⟨H,I,y,J⟩:=S.clone o p q r s.src (aI f ys).symm (n:=0) (by simp) u (by rw [aI f];simpa using g) (ts:=ts) v
 have l:dp E h (t::i::ts) (.slice (some ⟨b,0,none⟩) 0 0) x=some (a,v'):=w
 rw [l]at y
 cases y
 rcases J with⟨K,_⟩|⟨z,N,T⟩
 . exact absurd (List.length_eq_zero_iff.1 K) j
 . refine⟨z,by rw [N,Xf],?_⟩
   have:=T.row (b:=z) m0
   simpa using this
end
end Go.Ab

end
section
namespace Go.Ab
open Go.Proofs
set_option maxRecDepth 10000
def Tryz.F1j:=aj t1<|aj t2<|aj t3<|aj t4<|aj t5<|aj t20<|aj t69<|aj Z17<|aj t128<|aj t203<|r203
def Tryz.F0a:=aj t1<|aj t2<|aj t3<|aj t23<|aj t35<|aj Z1<|aj t69<|Z4
def Tryz.F0u:=aj t1<|aj t2<|aj t3<|aj t4<|t23
def Tryz.F0v:=aj t1<|aj t2<|aj t3<|aj t4<|aj t35<|Z4
theorem check1_ok{a:Hp}(c:a.t.Sized a.n){b:Nat}:dQ zB 126 [ptrTo b] none a fun o d e=>(∃v,o=.ret v)/\d=none/\Gr a e:=by
 have S:=Si c
 refine enter (n:=17) (rs:=[]) rfl Tryz.e126 rfl rfl rfl (lbt rfl) ?_
 simp only [BS,LB,Nat.reduceLT,Nat.reduceEqDiff,F1j]
 exact di (cL ⟨rfl,_,rfl,⟨_,rfl⟩,rfl,S.gr⟩)
theorem zY{c:Hp}(q:c.t.Sized c.n){d:Gra}(f:fo d){j k m:Value}(r:cZ c j k m d):bG zB 63 [iP d j k m] c .nilIface:=by
 have S:=Si q
 refine ab (n:=6) (rs:=[.cell 2 69]) rfl Tryz.e63 rfl rfl rfl (lbt rfl) ?_
 simp only [BS,Nat.reduceLT,iP]
 refine ag (bU (by intro x e;cases e)) S ?_;clear S;intro h b S s;simp only [ah]at S
 simp only [BS,F0a]
 refine ag av S ?_;clear S;intro h t S p
 simp only [BS,LB,Nat.reduceLT,Nat.reduceEqDiff,F0a,S.lds (b:=b) (o:=0) (n:=4) m1 (lbt rfl)]
 refine step_ret (look_ok S.ok f (r.gr S.gr)) ?_;intro v h g;replace S:=S.call g;clear g
 simp only [BS,LB,Nat.reduceLT,Nat.reduceEqDiff]
 refine aw (ar S (i:=0) rfl ?_ ?_ ?_ ono) ?_
 . exact(by simp only [F0a])
 . exact(by exact fl_nili)
 . exact Xc (lbt rfl)
 clear S;rintro h ⟨S,u⟩;clear u;simp only [LC,ah,lay,Xa,Xb,Nat.reduceAdd]at S
 simp only [BS]
 refine fH (un_fn (eJ (check1_ok S.ok) fun o w y ⟨a,b,g⟩=>⟨a,b,cL ⟨rfl,?_⟩⟩))
 replace S:=S.call g
 have l:=S.ld (b:=t) (o:=0) m0 rfl
 exact⟨_,uq (by decide) (by simp only [aT,ac,Nat.reduceEqDiff,reduceIte];exact B2 Tryz.t69.1 l),rfl,S.gr⟩
theorem rB{a:Hp}(j:a.t.Sized a.n){v:Value}{xs:List Int}(k:ay a 1 (encI .i64) v xs)(t:xs.length<1000000):Ret zB 132 [v] a fun r d=>Gr a d/\ay d 1 (encI .i64) r xs/\ ∀c,aq r c->a.n<=c:=by
 have S:=Si j
 rcases k with⟨rfl,rfl⟩|⟨b,o,s,c,rfl,l,m⟩
 . refine ab (n:=8) (rs:=[.tmp 2]) rfl Tryz.e132 rfl rfl rfl (lbt rfl) ?_
   simp only [BS,LB,ae,Nat.reduceLT,Nat.reduceEqDiff,F0u]
   exact⟨S.gr,.inl ⟨rfl,rfl⟩,fun c f=>f.elim⟩
 . refine ab (n:=8) (rs:=[.tmp 2]) rfl Tryz.e132 rfl rfl rfl (lbt rfl) ?_
   simp only [BS,LB,Nat.reduceLT,Nat.reduceEqDiff,F0u]
   refine ag (bj (by exact Tryz.t23.1) (by exact Tryz.e2E) (by decide) (by rfl)) S ?_;clear S;intro h u S i;simp only [LC,aU,bA,ah,Nat.reduceMul,Nat.reduceAdd,Xg,Xf,Xk,Xn]at S
   simp only [BS,LB,Nat.reduceLT,Nat.reduceEqDiff]
   refine dT (S.cloneSl (enc:=encI .i64) (xs:=[]) Tryz.t23.1 Tryz.e2E (by decide) Tryz.t23.2.2.2.2.2 (.inr ⟨b,o,s,c,rfl,l,S.old m (fun h=>h)⟩) (fun x=>rfl) (by decide) (by simp only [List.length_nil,Xf];omega) (S.row m0)) ?_
   rintro d v ⟨p,g,q,f⟩
   simp only [BS,LB,ae,Nat.reduceLT,Nat.reduceEqDiff]
   refine⟨p.gr,by simpa using q,fun c h=>(f c h).elim (fun e=>by omega) (fun e=>XC S.fr.n e)⟩
theorem BW{a:Hp}(j:a.t.Sized a.n){v:Value}{xs:List Arc}(k:ay a 3 (cD) v xs)(t:xs.length<1000000):Ret zB 133 [v] a fun r d=>Gr a d/\ay d 3 (cD) r xs/\(∀c,aq r c->a.n<=c)/\WrK d 3 cD r xs:=by
 have S:=Si j
 rcases k with⟨rfl,rfl⟩|⟨b,o,s,c,rfl,l,m⟩
 . refine ab (n:=8) (rs:=[.tmp 2]) rfl Tryz.e133 rfl rfl rfl (lbt rfl) ?_
   simp only [BS,LB,ae,Nat.reduceLT,Nat.reduceEqDiff,F0v]
   exact⟨S.gr,.inl ⟨rfl,rfl⟩,fun c f=>f.elim,fun h=>absurd rfl h⟩
 . refine ab (n:=8) (rs:=[.tmp 2]) rfl Tryz.e133 rfl rfl rfl (lbt rfl) ?_
   simp only [BS,LB,Nat.reduceLT,Nat.reduceEqDiff,F0v]
   refine ag (bj (by exact Tryz.t35.1) (by exact Tryz.e90E) (by decide) (by rfl)) S ?_;clear S;intro h u S i;simp only [LC,aU,bA,ah,Nat.reduceMul,Nat.reduceAdd,Xg,Xf,Xk,Xn]at S
   simp only [BS,LB,Nat.reduceLT,Nat.reduceEqDiff]
   refine dT (S.cloneW (enc:=cD) (ys:=xs) Tryz.t35.1 Tryz.e90E (by decide) Tryz.t35.2.2.2.2.2 (.inr ⟨b,o,s,c,rfl,l,S.old m (fun h=>h)⟩) (fun x=>rfl) (by decide) (by omega) (S.row m0)) ?_
   rintro d v ⟨p,g,q,f,w⟩
   simp only [BS,LB,ae,Nat.reduceLT,Nat.reduceEqDiff]
   exact⟨p.gr,q,fun c h=>(f c h).elim (fun e=>by omega) (fun e=>XC S.fr.n e),w⟩
def Tryz.FT:=aj t1<|aj t2<|aj t3<|aj t4<|aj t5<|aj t22<|aj t63<|aj t65<|r65
structure oQ(h:Hp)(bd:Nat)(vB:Value)(xs:List Int)(a:Nat):Prop where
 sl:ay h 1 (encI .u8) vB xs
 ne: ¬aq vB bd
 few:xs.length<1000000
 at_:a<100000
def drV(xs:List Int)(n a:Nat):Nat:=if h:xs.length=0 then 0 else(am .u8 (xs[a%xs.length]'(Nat.mod_lt _ (by omega))+am .u8 (am .i64 ((a:Int).tdiv (xs.length:Int))))%(n:Int)).toNat
theorem zP{f:Hp}(C:f.t.Sized f.n){d a n:Nat}{g:Value}{xs:List Int}(p:Row f d [g,.int .i64 a] 1)(D:oQ f d g xs a)(L:1<=n)(E:n<1000):
 Ret zB 61 [ptrTo d,.int .i64 n] f fun v x=>Mo (· =d) f x/\ ∃r y:Nat,v=.int .i64 r/\r<n/\y<=a+1/\Row x d [g,.int .i64 y] 1/\r=drV xs n a:=by
 have S:=St.init1 C (o:=.row [g,.int .i64 a] 1) p
 obtain⟨s,u,M,N⟩:=D
 have O:=s.fl
 have F:am .i64 ((a:Int)+1)=((a+1:Nat):Int):=by rw [wrap64]<;>omega
 have G:am .i64 (((a+1:Nat):Int)-1)=(a:Int):=by rw [wrap64]<;>omega
 have H: ¬(n:Int)<1:=by omega
 by_cases j:xs.length=0
 . have t:(xs.length:Int)=0:=by omega
   refine ab (n:=55) (rs:=[.tmp 4]) rfl Tryz.e61 rfl rfl rfl (lbt rfl) ?_
   simp only [BS,LB,ae,Nat.reduceLT,Nat.reduceEqDiff,FT,s.lenq,t,S.ld (b:=d) (o:=0) m0 rfl]
   exact⟨S.fr,0,a,rfl,by omega,by omega,S.row m0,by unfold drV;rw [dif_pos j]⟩
 . have t: ¬(xs.length:Int)=0:=by omega
   have k:a%xs.length<xs.length:=Nat.mod_lt _ (by omega)
   have I:(a:Int).tmod (xs.length:Int)=((a%xs.length:Nat):Int):=by rw [XA (by omega)];exact(Int.natCast_emod _ _).symm
   refine ab (n:=55) (rs:=[.tmp 4]) rfl Tryz.e61 rfl rfl rfl (lbt rfl) ?_
   simp only [BS,LB,Nat.reduceLT,Nat.reduceEqDiff,FT,s.lenq,t,H,F,S.ld (b:=d) (o:=0) m0 rfl,S.ld (b:=d) (o:=1) m0 rfl]
   refine aw (ar S (i:=0) rfl ?_ ?_ ?_ ono) ?_
   . exact(by simp only [FT])
   . exact(by exact cg)
   . exact Xc (lbt rfl)
   clear S;rintro h ⟨S,J⟩;clear J;simp only [LC,ah,lay,Xa,Xb,Nat.reduceAdd]at S
   have l:ay h 1 (encI .u8) g xs:=s.mo S.fr (fun b K e=>u (e▸K))
   obtain⟨c,o,m,w⟩:=l.ix (kd:=.i64) (aH _) k
   have A:(xs.length:Int)≠0:=t
   have B:(n:Int)≠0:=by omega
   simp only [BS]
   refine au (ax rfl) (q:=0) (ps:=[]) (by kernel_rfl) ?_
   simp only [BS,LB,ck,aF,cq,cls,ae,Nat.reduceLT,Nat.reduceEqDiff,Nat.reduceAdd,Nat.reducePow,Nat.reduceDiv,Nat.reduceMod,Nat.reduceLeDiff,FT,l.lenq,G,iK A,mL A,iK B,I,m,w,encI,S.ld (b:=d) (o:=0) m0 rfl,S.ld (b:=d) (o:=1) m0 rfl]
   have p:(am .i64 (am .u8 (xs[a%xs.length]+am .u8 (am .i64 ((a:Int).tdiv (xs.length:Int)))))).tmod (n:Int)=((drV xs n a:Nat):Int)/\drV xs n a<n:=by
    unfold drV
    rw [dif_neg j]
    generalize xs[a%xs.length]+am .u8 (am .i64 ((a:Int).tdiv (xs.length:Int)))=z
    have P:=wrap8 z
    rw [wrap64 (by omega) (by omega),XA (by omega)]
    have Q:=Int.emod_nonneg (am .u8 z) B
    have R:=Int.emod_lt_of_pos (am .u8 z) (show(0:Int)<n by omega)
    exact⟨by omega,by omega⟩
   rw [p.1]
   exact⟨S.fr,_,a+1,rfl,p.2,XY _,S.row m0,rfl⟩
theorem iF{b:Hp}(j:b.t.Sized b.n){c a n:Nat}{g:Value}{xs:List Int}(k:Row b c [g,.int .i64 a] 1)(l:oQ b c g xs a)(m:1<=n)(h:n<1000):
 Ret zB 61 [ptrTo c,.int .i64 n] b fun v i=>Mo (· =c) b i/\ ∃r d:Nat,v=.int .i64 r/\r<n/\d<=a+1/\Row i c [g,.int .i64 d] 1:=
 (zP j k l m h).mono fun v i ⟨f,r,d,e,o,p,q,_⟩=>⟨f,r,d,e,o,p,q⟩
theorem oQ.mo{h g:Hp}{c:Nat}{i:Value}{xs:List Int}{a j:Nat}(d:oQ h c i xs a)(f:Mo (· =c) h g)(k:j<100000):oQ g c i xs j:=
 ⟨d.sl.mo f (fun b l e=>d.ne (e▸l)),d.ne,d.few,k⟩
theorem oQ.gr{h b:Hp}{c:Nat}{e:Value}{xs:List Int}{a:Nat}(d:oQ h c e xs a)(g:Gr h b):oQ b c e xs a:=⟨d.sl.gr g,d.ne,d.few,d.at_⟩
theorem yB{d:Hp}(z:d.t.Sized d.n){e a:Nat}{g:Value}{xs:List Int}(A:Row d e [g,.int .i64 a] 1)(t:oQ d e g xs a)(E:a+2<100000):
 Ret zB 62 [ptrTo e] d fun v u=>Mo (· =e) d u/\ ∃r w:Nat,v=.int .i64 r/\r<=2147483647/\w<=a+2/\Row u e [g,.int .i64 w] 1:=by
 have S:=St.init1 z (o:=.row [g,.int .i64 a] 1) A
 refine ab (n:=24) (rs:=[.tmp 2]) rfl Tryz.e62 rfl rfl rfl (lbt rfl) ?_
 simp only [BS,LB,Nat.reduceLT,Nat.reduceEqDiff]
 refine step_ret (iF (n:=12) S.ok (S.row m0) t (by omega) (by omega)) ?_
 rintro v h ⟨f,r,x,rfl,B,C,D⟩
 replace S:=S.call1 (i:=0) rfl f (o':=.row _ _) D
 have c:oQ h e g xs x:=t.mo f (by omega)
 simp only [LC]at S
 by_cases q:(r:Int)<3
 . simp only [BS,LB,ae,Nat.reduceLT,Nat.reduceEqDiff,q]
   exact⟨S.fr,0,x,rfl,by omega,by omega,S.row m0⟩
 . by_cases s:(r:Int)<10
   . simp only [BS,LB,Nat.reduceLT,Nat.reduceEqDiff,q,s]
     refine step_ret (iF (n:=9) S.ok (S.row m0) c (by omega) (by omega)) ?_
     rintro v h ⟨f,b,j,rfl,k,l,m⟩
     replace S:=S.call1 (i:=0) rfl f (o':=.row _ _) m
     simp only [LC]at S
     have p:am .i64 (1+(b:Int))=((1+b:Nat):Int):=by rw [wrap64]<;>omega
     simp only [BS,LB,ae,Nat.reduceLT,Nat.reduceEqDiff,p]
     exact⟨S.fr,1+b,j,rfl,by omega,by omega,S.row m0⟩
   . by_cases y:(r:Int)<11
     . simp only [BS,LB,Nat.reduceLT,Nat.reduceEqDiff,q,s,y]
       refine step_ret (iF (n:=20) S.ok (S.row m0) c (by omega) (by omega)) ?_
       rintro v h ⟨f,b,j,rfl,k,l,m⟩
       replace S:=S.call1 (i:=0) rfl f (o':=.row _ _) m
       simp only [LC]at S
       have p:am .i64 (100*(b:Int))=((100*b:Nat):Int):=by rw [wrap64]<;>omega
       simp only [BS,LB,ae,Nat.reduceLT,Nat.reduceEqDiff,p]
       exact⟨S.fr,100*b,j,rfl,by omega,by omega,S.row m0⟩
     . simp only [BS,LB,Nat.reduceLT,Nat.reduceEqDiff,q,s,y]
       refine step_ret (iF (n:=2) S.ok (S.row m0) c (by omega) (by omega)) ?_
       rintro v h ⟨f,b,j,rfl,k,l,m⟩
       replace S:=S.call1 (i:=0) rfl f (o':=.row _ _) m
       simp only [LC]at S
       have p:am .i64 (2147483647-(b:Int))=((2147483647-b:Nat):Int):=by rw [wrap64]<;>omega
       simp only [BS,LB,ae,Nat.reduceLT,Nat.reduceEqDiff,p]
       exact⟨S.fr,2147483647-b,j,rfl,by omega,by omega,S.row m0⟩
def Tryz.F5:=aj t1<|aj t2<|aj t3<|aj t4<|aj t5<|aj t6<|aj Z0<|aj Z2<|aj t9<|aj t10<|aj t11<|aj t12<|aj Z6<|aj Z10<|aj t15<|aj t16<|aj t17<|aj Z23<|aj Z22<|aj t20<|aj t21<|aj t22<|aj t23<|aj t35<|aj Z1<|aj t58<|aj t63<|aj t65<|aj r65<|aj Z4<|aj t157<|aj t268<|aj Z15<|aj t355<|aj t357<|aj t359<|aj t360<|aj t361<|aj t362<|Z18
def ints(l:List Int):List Value:=l.flatMap (encI .i64)
theorem bQ(l:List Int):(ints l).length=l.length:=by unfold ints;rw [aI (k:=1) (fun _=>rfl)];omega
theorem gM(l m:List Int):ints (l++m)=ints l++ints m:=by unfold ints;rw [Xm]
theorem raw0_ok {J:Hp} (ok:J.t.Sized J.n) {B:Nat} {W:Value} {xs:List Int} (hr:Row J B [W,.int .i64 ((0:Nat):Int)] 1) (Q:oQ J B W xs 0):
 Ret zB 20 [ptrTo B] J fun v h'=>Mo (· =B) J h'/\ ∃γ vx vy va,v=iP γ vx vy va/\Good γ/\γ.nodes=1+drV xs 12 0/\cZ h' vx vy va γ/\ ∀c,(aq vx c\/aq vy c\/aq va c)->J.n<=c:=by
 have S:=St.init1 ok (o:=.row [W,.int .i64 ((0:Nat):Int)] 1) hr
 have b4:=hr.lt ok
 refine ab (n:=117) (rs:=[.cell 2 37]) rfl Tryz.e20 rfl rfl rfl (lbt rfl) ?_
 simp only [BS,F5]
 refine ag av S ?_;clear S;intro h M S bT
 simp only [BS,LB,Nat.reduceLT,Nat.reduceEqDiff]
 refine step_ret (zP (n:=12) (a:=0) S.ok (S.row m1) (Q.mo S.fr (by omega)) (by omega) (by omega)) ?_
 rintro v h ⟨f,r,a0,rfl,b5,b6,R,b7⟩
 replace S:=S.call1 (i:=1) rfl f (o':=.row _ _) R
 simp only [LC]at S
 have w1:am .i64 (1+(r:Int))=((1+r:Nat):Int):=by rw [wrap64]<;>omega
 simp only [BS,LB,Nat.reduceLT,Nat.reduceEqDiff,Nat.reduceAdd,F5,w1]
 refine ag av S ?_;clear S;intro h s S b0
 simp only [BS,LB,Nat.reduceLT,Nat.reduceEqDiff]
 refine aw (S.store (i:=0) rfl ?_ ?_ rfl rfl ?_ ono) ?_
 . exact(by exact Tryz.t7.2.1)
 . exact(by intro x e;cases e)
 . exact lbt rfl
 clear S;rintro h ⟨S,O⟩;clear O;simp only [LC,ah,lay,Xa,Xb,Nat.reduceAdd]at S
 simp only [BS]
 replace S:=((S.nilG (k:=3)).nilG (k:=1)).nilG (k:=1)
 generalize hN:1+r=N at S
 refine az (fun(i:Nat) g h=>i<=N/\ ∃(a:Nat) (D G:Value) (X Y:List Int),a<=1+2*i/\X.length=i/\Y.length=i/\(∀x∈X,-2147483648<=x/\x<=2147483647)/\(∀x∈Y,-2147483648<=x/\x<=2147483647)/\
  St (· =B) J h [(s,.row [.int .i64 N,D,G,.slice none 0 0] 1),(M,.row [.int .i64 0,.slice none 0 0,.slice none 0 0,.slice none 0 0] 1),(B,.row [W,.int .i64 a] 1)] [(D,1,ints X),(G,1,ints Y),(.slice none 0 0,3,[])]/\
  g 0=ptrTo B/\g 2=ptrTo M/\g 3=ptrTo s/\g 4=.int .i64 i) (fun i=>N-i) ?_ 0 _ _ ?_
 . clear S
   intro i U g h ⟨hi,a,D,G,X,Y,ha,lX,lY,cX,cY,S,r,y,d,r4⟩
   by_cases hlt:i<N
   . simp only [BS,LB,Nat.reduceLT,Nat.reduceEqDiff,F5,d,r4,an,hlt,S.ld (b:=s) (o:=0) m0 rfl]
     refine au (ax rfl) (q:=32) (ps:=[(1,3)]) (by kernel_rfl) ?_
     simp only [BS,LB,cls,Nat.reduceLT,Nat.reduceEqDiff,Nat.reduceAdd,Nat.reducePow,Nat.reduceDiv,Nat.reduceMod,Nat.reduceLeDiff,F5,r,d,S.ld (b:=s) (o:=1) m0 rfl]
     refine ce (iF (n:=9) (a:=a) S.ok (S.row m2) (Q.mo S.fr (by omega)) (by omega) (by omega)) ?_
     rintro v h ⟨f,r1,a1,rfl,b8,bn,R⟩
     have hl:=S.leaves (c:=s) m0 f (by omega)
     replace S:=S.call1 (i:=2) rfl f (o':=.row _ _) R
     simp only [LC]at S
     have w9:am .i64 ((r1:Int)-3)=(r1:Int)-3:=by rw [wrap64]<;>omega
     simp only [BS,LB,cls,Nat.reduceLT,Nat.reduceEqDiff,Nat.reduceAdd,Nat.reducePow,Nat.reduceDiv,Nat.reduceMod,Nat.reduceLeDiff,w9]
     refine ec (bj (by exact Tryz.t23.1) (by exact Tryz.e2E) (by decide) (by rfl)) S ?_;clear S;intro h Z S K af;simp only [LC,aU,bA,ah,Nat.reduceMul,Nat.reduceAdd,Xg,Xf,Xk,Xn]at S
     simp only [BS,LB,cls,Nat.reduceLT,Nat.reduceEqDiff,Nat.reduceAdd,Nat.reducePow,Nat.reduceDiv,Nat.reduceMod,Nat.reduceLeDiff]
     refine jx (S.grow (j:=0) (m:=1) (new:=ints [(r1:Int)-3]) rfl Tryz.t23.1 Tryz.e2E (by decide) Tryz.t23.2.2.2.2.2 (by simp only [aA];rw [S.lds (b:=Z) (o:=0) (n:=1*1) m0 (lbt rfl)];rfl) rfl (by decide) rfl (by rw [bQ,bQ];simp;omega)) ?_
     clear S
     rintro h ba S
     simp only [LC]at S
     replace S:=S.drop1
     rw [<-gM]at S
     have fX:Fl ba:=(S.gown _ m0).1.fl
     simp only [BS,LB,cls,Nat.reduceLT,Nat.reduceEqDiff,Nat.reduceAdd,Nat.reducePow,Nat.reduceDiv,Nat.reduceMod,Nat.reduceLeDiff,F5,d]
     refine d9 (ar S (i:=0) rfl ?_ ?_ ?_ ono) ?_
     . exact(by simp only [F5])
     . exact(by assumption)
     . exact Xc (lbt rfl)
     clear S;rintro h ⟨S,O⟩;clear O;simp only [LC,ah,lay,Xa,Xb,Nat.reduceAdd]at S
     simp only [BS,Nat.reduceAdd]
     refine⟨by simp only [aX,bo,aS,bD,aV,ne_eq,not_false_eq_true,bC,bR,aZ,aW,bZ,cu,aT,Nat.reduceLT,Nat.reduceEqDiff,reduceIte,Xw,d,ac,aD hl],?_⟩
     refine au (ax rfl) (q:=16) (ps:=[(1,3)]) (by kernel_rfl) ?_
     simp only [BS,LB,cls,Nat.reduceLT,Nat.reduceEqDiff,Nat.reduceAdd,Nat.reducePow,Nat.reduceDiv,Nat.reduceMod,Nat.reduceLeDiff,F5,r,d,S.ld (b:=s) (o:=2) m0 rfl]
     clear f hl R
     refine ce (iF (n:=7) (a:=a1) S.ok (S.row m2) (Q.mo S.fr (by omega)) (by omega) (by omega)) ?_
     rintro v h ⟨f,H,a2,rfl,bp,br,R⟩
     have hl:=S.leaves (c:=s) m0 f (by omega)
     replace S:=S.call1 (i:=2) rfl f (o':=.row _ _) R
     simp only [LC]at S
     simp only [BS,LB,cls,Nat.reduceLT,Nat.reduceEqDiff,Nat.reduceAdd,Nat.reducePow,Nat.reduceDiv,Nat.reduceMod,Nat.reduceLeDiff]
     refine ec (bj (by exact Tryz.t23.1) (by exact Tryz.e2E) (by decide) (by rfl)) S ?_;clear S;intro h Z S K af;simp only [LC,aU,bA,ah,Nat.reduceMul,Nat.reduceAdd,Xg,Xf,Xk,Xn]at S
     simp only [BS,LB,cls,Nat.reduceLT,Nat.reduceEqDiff,Nat.reduceAdd,Nat.reducePow,Nat.reduceDiv,Nat.reduceMod,Nat.reduceLeDiff]
     refine jx (S.grow (j:=1) (m:=1) (new:=ints [(H:Int)]) rfl Tryz.t23.1 Tryz.e2E (by decide) Tryz.t23.2.2.2.2.2 (by simp only [aA];rw [S.lds (b:=Z) (o:=0) (n:=1*1) m0 (lbt rfl)];rfl) rfl (by decide) rfl (by rw [bQ,bQ];simp;omega)) ?_
     clear S
     rintro h bb S
     simp only [LC]at S
     replace S:=S.drop1
     rw [<-gM]at S
     have fY:Fl bb:=(S.gown _ m1).1.fl
     simp only [BS,LB,cls,Nat.reduceLT,Nat.reduceEqDiff,Nat.reduceAdd,Nat.reducePow,Nat.reduceDiv,Nat.reduceMod,Nat.reduceLeDiff,F5,d]
     refine d9 (ar S (i:=0) rfl ?_ ?_ ?_ ono) ?_
     . exact(by simp only [F5])
     . exact(by assumption)
     . exact Xc (lbt rfl)
     clear S;rintro h ⟨S,O⟩;clear O;simp only [LC,ah,lay,Xa,Xb,Nat.reduceAdd]at S
     simp only [BS,LB,Nat.reduceLT,Nat.reduceEqDiff,Nat.reduceAdd,r4]
     refine⟨by simp only [aX,bo,aS,bD,aV,ne_eq,not_false_eq_true,bC,bR,aZ,aW,bZ,cu,aT,Nat.reduceLT,Nat.reduceEqDiff,reduceIte,Xw,d,ac,aD hl],?_⟩
     have w:am .i64 ((i:Int)+1)=((i+1:Nat):Int):=by rw [wrap64]<;>omega
     simp only [w]
     exact U (i+1) _ _ (by omega) ⟨by omega,a2,ba,bb,_,_,by omega,by simp [lX],by simp [lY],
      fun x F=>(List.mem_append.1 F).elim (cX x) (fun h=>by simp at h;omega),fun x F=>(List.mem_append.1 F).elim (cY x) (fun h=>by simp at h;omega),S,by simp [aa,r,ac],by simp [aa,y,ac],by simp [aa,d,ac],by simp [aa]⟩
   . have bt : i=N:=by omega
     subst bt
     simp only [BS,LB,Nat.reduceLT,Nat.reduceEqDiff,F5,r,d,r4,an,hlt,S.ld (b:=s) (o:=0) m0 rfl]
     refine step_ret (iF (n:=9) (a:=a) S.ok (S.row m2) (Q.mo S.fr (by omega)) (by omega) (by omega)) ?_
     rintro v h ⟨f,H,a1,rfl,bp,bn,R⟩
     replace S:=S.call1 (i:=2) rfl f (o':=.row _ _) R
     simp only [LC]at S
     simp only [BS,LB,Nat.reduceLT,Nat.reduceEqDiff]
     refine mK (fun g h=> ∃(X Y:List Int),X.length=i/\Y.length=i/\(∀x∈X,-2147483648<=x/\x<=2147483647)/\(∀x∈Y,-2147483648<=x/\x<=2147483647)/\
      St (· =B) J h [(s,.row [.int .i64 i,D,G,.slice none 0 0] 1),(M,.row [.int .i64 0,.slice none 0 0,.slice none 0 0,.slice none 0 0] 1),(B,.row [W,.int .i64 a1] 1)] [(D,1,ints X),(G,1,ints Y),(.slice none 0 0,3,[])]/\
      g 0=ptrTo B/\g 2=ptrTo M/\g 3=ptrTo s) ?_ ?_ ?_
     . intro _
       obtain⟨bX,ix,bc⟩:=S.gset (E:=zB) (t:=2) (j:=0) (i:=0) (kd:=.i64) rfl (by rw [bQ];omega) Tryz.t2.2.2.1
       have bu:iQ (some 1) D (.int .i64 0)=_:=ix
       simp only [BS,LB,Nat.reduceLT,Nat.reduceEqDiff,F5,d,bu,S.ld (b:=s) (o:=1) m0 rfl]
       refine aw (bc _ cg) ?_
       clear S bc;intro h S
       simp only [LC]at S
       obtain⟨bY,iy,be⟩:=S.gset (E:=zB) (t:=2) (j:=1) (i:=i-1) (kd:=.i64) rfl (by rw [bQ];omega) Tryz.t2.2.2.1
       have w1:am .i64 ((i:Int)-1)=((i-1:Nat):Int):=by rw [wrap64]<;>omega
       simp only [BS,LB,Nat.reduceLT,Nat.reduceEqDiff,F5,d,w1,iy,S.ld (b:=s) (o:=0) m0 rfl,S.ld (b:=s) (o:=2) m0 rfl]
       refine aw (be _ cg) ?_
       clear S be;intro h S
       simp only [LC]at S
       simp only [BS]
       have ai: ∀(l:List Int) (j:Nat) (z:Int),(ints l).set j (.int .i64 z)=ints (l.set j z):=by
        intro l
        induction l with
        |nil=>intro j z;rfl
        | cons x l U=>
          intro j z
          cases j with
          |zero=>rfl
          |succ j=>show _::_=_::_;exact congrArg _ (U j z)
       rw [ai,ai]at S
       refine dg ⟨_,_,by simp [lX],by simp [lY],fun x F=>?_,fun x F=>?_,S,by simp [aa,r,ac],by simp [aa,y,ac],by simp [aa,d,ac]⟩
       . rcases lK F with rfl|⟨j,_,F⟩
         . omega
         . exact cX x (XI F)
       . rcases lK F with rfl|⟨j,_,F⟩
         . omega
         . exact cY x (XI F)
     . intro _
       simp only [BS]
       exact dg ⟨X,Y,lX,lY,cX,cY,S,by simp [aa,r,ac],by simp [aa,y,ac],by simp [aa,d,ac]⟩
     . clear S r y d r4 lX lY cX cY X Y f R
       rintro g h ⟨X,Y,lX,lY,cX,cY,S,r,y,d⟩
       have w3:am .i64 (3*(i:Int))=((3*i:Nat):Int):=by rw [wrap64]<;>omega
       have w4:am .i64 (((3*i:Nat):Int)+1)=((3*i+1:Nat):Int):=by rw [wrap64]<;>omega
       simp only [BS,LB,Nat.reduceLT,Nat.reduceEqDiff,F5,r,d,w3,w4,S.ld (b:=s) (o:=0) m0 rfl]
       refine step_ret (iF (n:=3*i+1) (a:=a1) S.ok (S.row m2) (Q.mo S.fr (by omega)) (by omega) (by omega)) ?_
       rintro v h ⟨f,C,a2,rfl,bv,br,R⟩
       replace S:=S.call1 (i:=2) rfl f (o':=.row _ _) R
       simp only [LC]at S
       simp only [BS,LB,Nat.reduceLT,Nat.reduceEqDiff,r]
       refine step_ret (iF (n:=3) (a:=a2) S.ok (S.row m2) (Q.mo S.fr (by omega)) (by omega) (by omega)) ?_
       rintro v h ⟨f,rr,a3,rfl,cb,cc,R⟩
       replace S:=S.call1 (i:=2) rfl f (o':=.row _ _) R
       simp only [LC]at S
       simp only [BS,LB,Nat.reduceLT,Nat.reduceEqDiff]
       generalize decide ((0:Int)<(rr:Int))=ring
       refine si (fun g h=> ∃(a:Nat) (u:Value) (A:List Arc),a<=a3+2*i/\A.length<=i/\(∀x∈A,x.s<i/\x.t<i/\x.w<=2147483647)/\
        St (· =B) J h [(s,.row [.int .i64 i,D,G,u] 1),(M,.row [.int .i64 0,.slice none 0 0,.slice none 0 0,.slice none 0 0] 1),(B,.row [W,.int .i64 a] 1)] [(D,1,ints X),(G,1,ints Y),(u,3,A.flatMap cD)]/\
        g 0=ptrTo B/\g 2=ptrTo M/\g 3=ptrTo s/\g 5=.int .i64 C)
        (fun(j:Nat) g h=>j<=i/\ ∃(a:Nat) (u:Value) (A:List Arc),a<=a3+2*j/\A.length<=j/\(∀x∈A,x.s<i/\x.t<i/\x.w<=2147483647)/\
        St (· =B) J h [(s,.row [.int .i64 i,D,G,u] 1),(M,.row [.int .i64 0,.slice none 0 0,.slice none 0 0,.slice none 0 0] 1),(B,.row [W,.int .i64 a] 1)] [(D,1,ints X),(G,1,ints Y),(u,3,A.flatMap cD)]/\
        g 0=ptrTo B/\g 2=ptrTo M/\g 3=ptrTo s/\g 5=.int .i64 C/\g 6=.bool ring/\g 7=.int .i64 j) (fun j=>i-j) ?_ ?_ 0 ⟨by omega,a3,_,[],by omega,by simp,by simp,S,by simp [aa,r,ac],by simp [aa,y,ac],by simp [aa,d,ac],by simp [aa],by simp [aa],by simp [aa]⟩
       . clear S r y d f R U
         intro j U g h ⟨hj,a,u,A,ha,lA,P,S,r,y,d,H,r6,r7⟩
         have L:(A.flatMap cD).length=A.length*3:=aI eo A
         by_cases hlt:j<i/\ring=true
         . obtain⟨hlt,I⟩:=hlt
           subst I
           have w1:am .i64 ((j:Int)+1)=((j+1:Nat):Int):=by rw [wrap64]<;>omega
           have ci:(i:Int)≠0:=by omega
           have tm:((j+1:Nat):Int).tmod (i:Int)=(((j+1)%i:Nat):Int):=by rw [XA (by omega)];exact(Int.natCast_emod _ _).symm
           simp only [BS,LB,Nat.reduceLT,Nat.reduceEqDiff,F5,d,r6,r7,an,hlt,S.ld (b:=s) (o:=0) m0 rfl]
           refine au (ax rfl) (q:=2048) (ps:=[(6,9),(1,9)]) (by kernel_rfl) ?_
           simp only [BS,LB,cls,Nat.reduceLT,Nat.reduceEqDiff,Nat.reduceAdd,Nat.reducePow,Nat.reduceDiv,Nat.reduceMod,Nat.reduceLeDiff,F5,r,d,r7,w1,iK ci,tm,S.ld (b:=s) (o:=0) m0 rfl,S.ld (b:=s) (o:=3) m0 rfl]
           refine ce (yB (a:=a) S.ok (S.row m2) (Q.mo S.fr (by omega)) (by omega)) ?_
           rintro v h ⟨f,V,a4,rfl,ad,bw,R⟩
           have hl:=S.leaves (c:=s) m0 f (by omega)
           replace S:=S.call1 (i:=2) rfl f (o':=.row _ _) R
           simp only [LC]at S
           simp only [BS,LB,cls,Nat.reduceLT,Nat.reduceEqDiff,Nat.reduceAdd,Nat.reducePow,Nat.reduceDiv,Nat.reduceMod,Nat.reduceLeDiff,F5]
           refine ec (bj (by exact Tryz.t35.1) (by exact Tryz.e90E) (by decide) (by rfl)) S ?_;clear S;intro h Z S K af;simp only [LC,aU,bA,ah,Nat.reduceMul,Nat.reduceAdd,Xg,Xf,Xk,Xn]at S
           simp only [BS,LB,cls,Nat.reduceLT,Nat.reduceEqDiff,Nat.reduceAdd,Nat.reducePow,Nat.reduceDiv,Nat.reduceMod,Nat.reduceLeDiff]
           refine jx (S.grow (j:=2) (m:=1) (new:=cD ⟨j,(j+1)%i,V⟩) rfl Tryz.t35.1 Tryz.e90E (by decide) Tryz.t35.2.2.2.2.2 (by simp only [aA];rw [S.lds (b:=Z) (o:=0) (n:=1*3) m0 (lbt rfl)];rfl) rfl (by decide) rfl (by rw [L,eo];omega)) ?_
           clear S
           rintro h T S
           simp only [LC]at S
           replace S:=S.drop1
           have fA:Fl T:=(S.gown _ m2).1.fl
           simp only [BS,LB,cls,Nat.reduceLT,Nat.reduceEqDiff,Nat.reduceAdd,Nat.reducePow,Nat.reduceDiv,Nat.reduceMod,Nat.reduceLeDiff,F5,d]
           refine d9 (ar S (i:=0) rfl ?_ ?_ ?_ ono) ?_
           . exact(by simp only [F5])
           . exact(by assumption)
           . exact Xc (lbt rfl)
           clear S;rintro h ⟨S,O⟩;clear O;simp only [LC,ah,lay,Xa,Xb,Nat.reduceAdd]at S
           simp only [BS,LB,Nat.reduceLT,Nat.reduceEqDiff,Nat.reduceAdd,r7]
           refine⟨by simp only [aX,bo,aS,bD,aV,ne_eq,not_false_eq_true,bC,bR,aZ,aW,bZ,cu,aT,Nat.reduceLT,Nat.reduceEqDiff,reduceIte,Xw,d,ac,aD hl],?_⟩
           simp only [w1]
           have bf:(j+1)%i<i:=Nat.mod_lt _ (by omega)
           exact U (j+1) _ _ (by omega) ⟨by omega,a4,T,A++[⟨j,(j+1)%i,V⟩],by omega,by simp;omega,
            fun x F=>(List.mem_append.1 F).elim (P x) (fun h=>by simp at h;subst h;exact⟨hlt,bf,ad⟩),by rw [Xm];simpa using S,by simp [aa,r,ac],by simp [aa,y,ac],by simp [aa,d,ac],by simp [aa,H],by simp [aa,r6],by simp [aa]⟩
         . by_cases ak:j<i
           . have I:ring=false:=by cases ring with
              |false=>rfl
              |true=>exact absurd ⟨ak,rfl⟩ hlt
             subst I
             simp only [BS,LB,Nat.reduceLT,Nat.reduceEqDiff,F5,d,r6,r7,an,ak,S.ld (b:=s) (o:=0) m0 rfl]
             exact dg ⟨a,u,A,by omega,by omega,P,S,by simp [aa,r,ac],by simp [aa,y,ac],by simp [aa,d,ac],by simp [aa,H]⟩
           . simp only [BS,LB,Nat.reduceLT,Nat.reduceEqDiff,F5,d,r7,an,ak,S.ld (b:=s) (o:=0) m0 rfl]
             exact dg ⟨a,u,A,by omega,by omega,P,S,by simp [aa,r,ac],by simp [aa,y,ac],by simp [aa,d,ac],by simp [aa,H]⟩
       . clear S r y d f R U
         rintro g h ⟨a,u,A,ha,lA,P,S,r,y,d,H⟩
         simp only [BS]
         refine si (fun g h=> ∃(a:Nat) (u:Value) (A:List Arc),A.length<=100/\(∀x∈A,x.s<i/\x.t<i/\x.w<=2147483647)/\
          St (· =B) J h [(s,.row [.int .i64 i,D,G,u] 1),(M,.row [.int .i64 0,.slice none 0 0,.slice none 0 0,.slice none 0 0] 1),(B,.row [W,.int .i64 a] 1)] [(D,1,ints X),(G,1,ints Y),(u,3,A.flatMap cD)]/\
          g 0=ptrTo B/\g 2=ptrTo M/\g 3=ptrTo s)
          (fun(k:Nat) g h=>k<=C/\ ∃(a:Nat) (u:Value) (A:List Arc),a<=a3+2*i+6*k/\A.length<=i+2*k/\(∀x∈A,x.s<i/\x.t<i/\x.w<=2147483647)/\
          St (· =B) J h [(s,.row [.int .i64 i,D,G,u] 1),(M,.row [.int .i64 0,.slice none 0 0,.slice none 0 0,.slice none 0 0] 1),(B,.row [W,.int .i64 a] 1)] [(D,1,ints X),(G,1,ints Y),(u,3,A.flatMap cD)]/\
          g 0=ptrTo B/\g 2=ptrTo M/\g 3=ptrTo s/\g 5=.int .i64 C/\g 8=.int .i64 k) (fun k=>C-k) ?_ ?_ 0 ⟨by omega,a,u,A,by omega,by omega,P,S,by simp [aa,r,ac],by simp [aa,y,ac],by simp [aa,d,ac],by simp [aa,H],by simp [aa]⟩
         . clear S r y d H ha lA P a u A
           intro k U g h ⟨hk,a,u,A,ha,lA,P,S,r,y,d,H,r8⟩
           have L:(A.flatMap cD).length=A.length*3:=aI eo A
           by_cases hlt:k<C
           . simp only [BS,LB,Nat.reduceLT,Nat.reduceEqDiff,H,r8,an,hlt]
             refine au (yi (ord:=[11,0,1,2,3,4,5,6,7,8,9,10,12]) rfl rfl (by simp only [fg,reix,gk,List.getElem?_cons_zero,List.getElem?_cons_succ,List.map_toArray,XM,List.map_nil,Nat.reduceBEq,cond_true,cond_false];exact rfl)) (q:=1) (ps:=[(0,10),(0,8),(4,7),(0,4)]) (by kernel_rfl) ?_
             simp only [BS,LB,cls,Nat.reducePow,Nat.reduceDiv,Nat.reduceMod,Nat.reduceLeDiff,F5]
             refine ec av S ?_;clear S;intro h b9 S b1 bh
             simp only [BS,LB,cls,Nat.reduceLT,Nat.reduceEqDiff,Nat.reduceAdd,Nat.reducePow,Nat.reduceDiv,Nat.reduceMod,Nat.reduceLeDiff,F5,r,d,S.ld (b:=s) (o:=0) m1 rfl]
             refine ce (iF (n:=i) (a:=a) S.ok (S.row m3) (Q.mo S.fr (by omega)) (by omega) (by omega)) ?_
             rintro v h ⟨f,s1,a4,rfl,bi,bw,R⟩
             have bx:=S.leaves (c:=b9) m0 f (by omega)
             have bB:=S.leaves (c:=s) m1 f (by omega)
             replace S:=S.call1 (i:=3) rfl f (o':=.row _ _) R
             simp only [LC]at S
             simp only [BS,LB,cls,Nat.reduceLT,Nat.reduceEqDiff,Nat.reduceAdd,Nat.reducePow,Nat.reduceDiv,Nat.reduceMod,Nat.reduceLeDiff,F5,r,d,S.ld (b:=s) (o:=0) m1 rfl]
             refine ce (iF (n:=i) (a:=a4) S.ok (S.row m3) (Q.mo S.fr (by omega)) (by omega) (by omega)) ?_
             rintro v h ⟨f,s2,a5,rfl,bk,cf,R⟩
             have bI:=S.leaves (c:=b9) m0 f (by omega)
             have bL:=S.leaves (c:=s) m1 f (by omega)
             replace S:=S.call1 (i:=3) rfl f (o':=.row _ _) R
             simp only [LC]at S
             simp only [BS,LB,cls,Nat.reduceLT,Nat.reduceEqDiff,Nat.reduceAdd,Nat.reducePow,Nat.reduceDiv,Nat.reduceMod,Nat.reduceLeDiff,r]
             refine ce (yB (a:=a5) S.ok (S.row m3) (Q.mo S.fr (by omega)) (by omega)) ?_
             rintro v h ⟨f,V,a6,rfl,ad,ch,R⟩
             have bP:=S.leaves (c:=b9) m0 f (by omega)
             replace S:=S.call1 (i:=3) rfl f (o':=.row _ _) R
             simp only [LC]at S
             simp only [BS,LB,cls,Nat.reduceLT,Nat.reduceEqDiff,Nat.reduceAdd,Nat.reducePow,Nat.reduceDiv,Nat.reduceMod,Nat.reduceLeDiff,F5]
             refine d9 (S.store (i:=0) rfl ?_ ?_ rfl rfl ?_ ono) ?_
             . exact(by exact Tryz.t90.2.1)
             . exact(by intro x e;cases e)
             . exact lbt rfl
             clear S;rintro h ⟨S,O⟩;clear O;simp only [LC,ah,lay,Xa,Xb,Nat.reduceAdd]at S
             simp only [BS,LB,Nat.reduceLT,Nat.reduceEqDiff,Nat.reduceAdd,F5,d]
             refine⟨by simp only [aX,bo,aS,bD,aV,ne_eq,not_false_eq_true,bC,bR,aZ,aW,bZ,cu,aT,Nat.reduceLT,Nat.reduceEqDiff,reduceIte,Xw,d,ac,<-bh,aD bx,aD bI,aD bL,aD bP,aQ bB],?_⟩
             simp only [BS,LB,Nat.reduceLT,Nat.reduceEqDiff,F5,S.ld (b:=s) (o:=3) m1 rfl,S.lds (b:=b9) (o:=0) (n:=3) m0 (lbt rfl)]
             refine ag (bj (by exact Tryz.t35.1) (by exact Tryz.e90E) (by decide) (by rfl)) S ?_;clear S;intro h Z S K;simp only [LC,aU,bA,ah,Nat.reduceMul,Nat.reduceAdd,Xg,Xf,Xk,Xn]at S
             simp only [BS,LB,Nat.reduceLT,Nat.reduceEqDiff]
             refine dT (S.grow (j:=2) (m:=1) (new:=cD ⟨s1,s2,V⟩) rfl Tryz.t35.1 Tryz.e90E (by decide) Tryz.t35.2.2.2.2.2 (by simp only [aA];rw [S.lds (b:=Z) (o:=0) (n:=1*3) m0 (lbt rfl)];rfl) rfl (by decide) rfl (by rw [L,eo];omega)) ?_
             clear S
             rintro h T S
             simp only [LC]at S
             replace S:=S.drop1
             have fA:Fl T:=(S.gown _ m2).1.fl
             simp only [BS,LB,Nat.reduceLT,Nat.reduceEqDiff,F5,d]
             refine aw (ar S (i:=1) rfl ?_ ?_ ?_ ono) ?_
             . exact(by simp only [F5])
             . exact(by assumption)
             . exact Xc (lbt rfl)
             clear S;rintro h ⟨S,O⟩;clear O;simp only [LC,ah,lay,Xa,Xb,Nat.reduceAdd]at S
             simp only [BS,LB,Nat.reduceLT,Nat.reduceEqDiff,r]
             refine step_ret (iF (n:=4) (a:=a6) S.ok (S.row m3) (Q.mo S.fr (by omega)) (by omega) (by omega)) ?_
             rintro v h ⟨f,r9,a7,rfl,cl,cm,R⟩
             replace S:=S.call1 (i:=3) rfl f (o':=.row _ _) R
             simp only [LC]at S
             have w8:am .i64 ((k:Int)+1)=((k+1:Nat):Int):=by rw [wrap64]<;>omega
             have aL:(A.flatMap cD++cD ⟨s1,s2,V⟩).length=A.length*3+3:=by rw [Xd,L,eo]
             have bl: ∀x∈A++[(⟨s1,s2,V⟩:Arc)],x.s<i/\x.t<i/\x.w<=2147483647:=fun x F=>(List.mem_append.1 F).elim (P x) (fun h=>by simp at h;subst h;exact⟨bi,bk,ad⟩)
             by_cases hz:(r9:Int)=0
             . simp only [BS,LB,Nat.reduceLT,Nat.reduceEqDiff,Nat.reduceAdd,F5,d,hz,S.ld (b:=s) (o:=3) m1 rfl,S.ld (b:=b9) (o:=0) m0 rfl,S.ld (b:=b9) (o:=1) m0 rfl,S.ld (b:=b9) (o:=2) m0 rfl]
               refine ag (bj (by exact Tryz.t35.1) (by exact Tryz.e90E) (by decide) (by rfl)) S ?_;clear S;intro h Z S K;simp only [LC,aU,bA,ah,Nat.reduceMul,Nat.reduceAdd,Xg,Xf,Xk,Xn]at S
               simp only [BS,LB,Nat.reduceLT,Nat.reduceEqDiff]
               refine dT (S.grow (j:=2) (m:=1) (new:=cD ⟨s2,s1,V⟩) rfl Tryz.t35.1 Tryz.e90E (by decide) Tryz.t35.2.2.2.2.2 (by simp only [aA];rw [S.lds (b:=Z) (o:=0) (n:=1*3) m0 (lbt rfl)];rfl) rfl (by decide) rfl (by rw [aL,eo];omega)) ?_
               clear S
               rintro h bm S
               simp only [LC]at S
               replace S:=S.drop1
               have fA:Fl bm:=(S.gown _ m2).1.fl
               simp only [BS,LB,Nat.reduceLT,Nat.reduceEqDiff,F5,d]
               refine aw (ar S (i:=1) rfl ?_ ?_ ?_ ono) ?_
               . exact(by simp only [F5])
               . exact(by assumption)
               . exact Xc (lbt rfl)
               clear S;rintro h ⟨S,O⟩;clear O;simp only [LC,ah,lay,Xa,Xb,Nat.reduceAdd]at S
               simp only [BS,LB,Nat.reduceLT,Nat.reduceEqDiff,r8,w8]
               replace S:=S.drop1
               exact U (k+1) _ _ (by omega) ⟨by omega,a7,bm,A++[⟨s1,s2,V⟩]++[⟨s2,s1,V⟩],by omega,by simp;omega,
                fun x F=>(List.mem_append.1 F).elim (bl x) (fun h=>by simp at h;subst h;exact⟨bk,bi,ad⟩),by rw [Xm,Xm];simpa using S,by simp [aa,r,ac],by simp [aa,y,ac],by simp [aa,d,ac],by simp [aa,H],by simp [aa]⟩
             . simp only [BS,LB,Nat.reduceLT,Nat.reduceEqDiff,r8,hz,w8]
               replace S:=S.drop1
               exact U (k+1) _ _ (by omega) ⟨by omega,a7,T,A++[⟨s1,s2,V⟩],by omega,by simp;omega,
                bl,by rw [Xm];simpa using S,by simp [aa,r,ac],by simp [aa,y,ac],by simp [aa,d,ac],by simp [aa,H],by simp [aa]⟩
           . simp only [BS,LB,Nat.reduceLT,Nat.reduceEqDiff,H,r8,an,hlt]
             exact dg ⟨a,u,A,by omega,P,S,by simp [aa,r,ac],by simp [aa,y,ac],by simp [aa,d,ac]⟩
         . clear S r y d H ha lA P a u A
           rintro g h ⟨a,u,A,lA,P,S,r,y,d⟩
           simp only [BS,LB,Nat.reduceLT,Nat.reduceEqDiff,F5,y,d,S.lds (b:=s) (o:=0) (n:=4) m0 (lbt rfl)]
           have fX:Fl D:=(S.gown _ m0).1.fl
           have fY:Fl G:=(S.gown _ m1).1.fl
           have fA:Fl u:=(S.gown _ m2).1.fl
           refine aw (S.store (i:=1) rfl Tryz.t37.2.1 (by intro x e;cases e) rfl (by simp only [ah,Xa,Xb,List.all_cons,List.all_nil,fX.2.1,fY.2.1,fA.2.1,Xw];rfl) (lbt rfl) ono) ?_
           clear S;rintro h ⟨S,_⟩
           simp only [LC,ah,lay,Xa,Xb,Nat.reduceAdd]at S
           simp only [BS,ae]
           refine⟨_,uq (by decide) (by simp only [aT,y,ac,Nat.reduceEqDiff,reduceIte];exact gu Tryz.t37.1 Tryz.t37.2.1 (S.lds (b:=M) (o:=0) (n:=4) m1 (lbt rfl))),?_⟩
           have a8: ∀p∈[(D,1,ints X),(G,1,ints Y),(u,3,A.flatMap cD)],∀c,aq p.1 c->J.n<=c:=by
            intro p hp c hc
            obtain⟨h1,h2⟩:=S.gblk hp hc
            rcases h1 with h1|h1
            . exact h1
            . exact absurd (by simp [h1]) h2
           refine⟨S.fr,⟨i,X,Y,A⟩,D,G,u,rfl,⟨show 1<=i by omega,show i<=12 by omega,lX,lY,cX,cY,lA,P⟩,show i=_ by omega,⟨(S.gown _ m0).1.sl rfl (fun _=>rfl) (by decide),(S.gown _ m1).1.sl rfl (fun _=>rfl) (by decide),(S.gown _ m2).1.sl rfl (fun _=>rfl) (by decide)⟩,?_⟩
           rintro c (hc|hc|hc)
           . exact a8 _ m0 c hc
           . exact a8 _ m1 c hc
           . exact a8 _ m2 c hc
 . exact⟨by omega,a0,_,_,[],[],by omega,rfl,rfl,by simp,by simp,S,by simp [aa,cw,ac],by simp [aa,ac],by simp [aa,ac],by simp [aa]⟩
theorem raw_ok{e:Hp}(n:e.t.Sized e.n){k:Nat}{m:Value}{xs:List Int}(o:Row e k [m,.int .i64 ((0:Nat):Int)] 1)(p:oQ e k m xs 0):
 Ret zB 20 [ptrTo k] e fun v l=>Mo (· =k) e l/\ ∃g h i j,v=iP g h i j/\Good g/\cZ l h i j g/\ ∀c,(aq h c\/aq i c\/aq j c)->e.n<=c:=
 (raw0_ok n o p).mono fun v l ⟨f,g,h,i,j,a,b,_,c,d⟩=>⟨f,g,h,i,j,a,b,c,d⟩
def Tryz.Ff:=aj t1<|aj t2<|aj t3<|aj t23<|aj t35<|aj Z1<|Z4
theorem aP{h a:Hp}{b:Nat}(g:Gr h a)(c:b<h.n):leaves h a b=true:=gp (g.get b c)
theorem own_ok{p:Hp}(U:p.t.Sized p.n){w:Gra}(k:fo w){r s l:Value}(H:cZ p r s l w):
 Ret zB 66 [iP w r s l] p fun v F=>Gr p F/\ ∃r s l,v=iP w r s l/\cZ F r s l w/\(∀c,aq r c\/aq s c\/aq l c->p.n<=c)/\WrK F 3 cD l w.arcs/\ ∀c,aq l c-> ¬aq r c/\ ¬aq s c:=by
 have S:=Si U
 have lX:=k.lX
 have lY:=k.lY
 have n2:=k.n2
 have O:=k.many
 refine ab (n:=16) (rs:=[.cell 2 37]) rfl Tryz.e66 rfl rfl rfl (lbt rfl) ?_
 simp only [BS,Nat.reduceLT,iP]
 refine ag (bU (by intro x e;cases e)) S ?_;clear S;intro h b S V;simp only [ah]at S
 simp only [BS,Ff]
 refine ag av S ?_;clear S;intro h t S P
 simp only [BS]
 refine au (ax rfl) (q:=0) (ps:=[(5,7),(2,7),(2,4)]) (by kernel_rfl) ?_
 simp only [BS,LB,cls,Nat.reduceLT,Nat.reduceEqDiff,Nat.reduceAdd,Nat.reducePow,Nat.reduceDiv,Nat.reduceMod,Nat.reduceLeDiff,Ff,S.ld (b:=b) (o:=1) m1 rfl]
 refine ce (rB S.ok (H.X.gr S.gr) (by omega)) ?_
 have W:=S.fr.n
 rintro A h ⟨g,f,I⟩
 have Q:=aP g ((S.row (b:=b) m1).lt S.ok)
 have J: ∀c,aq A c-> ¬c=b:=fun c d e=>by have:=I c d;have:=(S.row (b:=b) m1).lt S.ok;omega
 have K: ∀c,aq A c-> ¬c=t:=fun c d e=>by have:=I c d;have:=(S.row (b:=t) m0).lt S.ok;omega
 replace S:=S.call g
 simp only [BS,LB,cls,Nat.reduceLT,Nat.reduceEqDiff,Nat.reduceAdd,Nat.reducePow,Nat.reduceDiv,Nat.reduceMod,Nat.reduceLeDiff,Ff,S.ld (b:=b) (o:=2) m1 rfl]
 refine ce (rB S.ok (H.Y.gr S.gr) (by omega)) ?_
 have X:=S.fr.n
 rintro B h ⟨g,j,L⟩
 have R:=aP g ((S.row (b:=b) m1).lt S.ok)
 have M: ∀c,aq B c-> ¬c=b:=fun c d e=>by have:=L c d;have:=(S.row (b:=b) m1).lt S.ok;omega
 have N: ∀c,aq B c-> ¬c=t:=fun c d e=>by have:=L c d;have:=(S.row (b:=t) m0).lt S.ok;omega
 replace S:=S.call g
 replace f:=f.gr g
 simp only [BS,LB,cls,Nat.reduceLT,Nat.reduceEqDiff,Nat.reduceAdd,Nat.reducePow,Nat.reduceDiv,Nat.reduceMod,Nat.reduceLeDiff,Ff,S.ld (b:=b) (o:=3) m1 rfl]
 refine ce (BW S.ok (H.A.gr S.gr) (by omega)) ?_
 have Y:=S.fr.n
 rintro C h ⟨g,m,D,u⟩
 have Z: ∀c,aq C c-> ¬aq A c/\ ¬aq B c:=fun c d=>⟨fun h=>by have:=D c d;have:=f.lt S.ok h;omega,fun h=>by have:=D c d;have:=j.lt S.ok h;omega⟩
 have T:=aP g ((S.row (b:=b) m1).lt S.ok)
 have y: ∀c,aq C c-> ¬c=b:=fun c d e=>by have:=D c d;have:=(S.row (b:=b) m1).lt S.ok;omega
 have E: ∀c,aq C c-> ¬c=t:=fun c d e=>by have:=D c d;have:=(S.row (b:=t) m0).lt S.ok;omega
 replace S:=S.call g
 replace f:=f.gr g
 replace j:=j.gr g
 have z: ∀c,aq A c\/aq B c\/aq C c->p.n<=c:=fun c d=>by
  rcases d with h|h|h
  . exact XC W (I c h)
  . exact XC X (L c h)
  . exact XC Y (D c h)
 have f1:=f.fl
 have f2:=j.fl
 have f3:=m.fl
 simp only [BS,LB,cls,Nat.reduceLT,Nat.reduceEqDiff,Nat.reduceAdd,Nat.reducePow,Nat.reduceDiv,Nat.reduceMod,Nat.reduceLeDiff,Ff]
 refine d9 (ar S (i:=1) rfl ?_ ?_ ?_ ono) ?_
 . exact(by simp only [Ff])
 . exact(by assumption)
 . exact Xc (lbt rfl)
 clear S;rintro h ⟨S,a⟩;replace f:=f.mo a J;replace j:=j.mo a M;replace m:=m.mo a y;replace u:=u.mo a y;clear a;simp only [LC,ah,lay,Xa,Xb,Nat.reduceAdd]at S
 simp only [BS,LB,cls,Nat.reduceLT,Nat.reduceEqDiff,Nat.reduceAdd,Nat.reducePow,Nat.reduceDiv,Nat.reduceMod,Nat.reduceLeDiff,Ff]
 refine d9 (ar S (i:=1) rfl ?_ ?_ ?_ ono) ?_
 . exact(by simp only [Ff])
 . exact(by assumption)
 . exact Xc (lbt rfl)
 clear S;rintro h ⟨S,a⟩;replace f:=f.mo a J;replace j:=j.mo a M;replace m:=m.mo a y;replace u:=u.mo a y;clear a;simp only [LC,ah,lay,Xa,Xb,Nat.reduceAdd]at S
 simp only [BS,LB,cls,Nat.reduceLT,Nat.reduceEqDiff,Nat.reduceAdd,Nat.reducePow,Nat.reduceDiv,Nat.reduceMod,Nat.reduceLeDiff,Ff]
 refine d9 (ar S (i:=1) rfl ?_ ?_ ?_ ono) ?_
 . exact(by simp only [Ff])
 . exact(by assumption)
 . exact Xc (lbt rfl)
 clear S;rintro h ⟨S,a⟩;replace f:=f.mo a J;replace j:=j.mo a M;replace m:=m.mo a y;replace u:=u.mo a y;clear a;simp only [LC,ah,lay,Xa,Xb,Nat.reduceAdd]at S
 simp only [BS,LB,Nat.reduceLT,Nat.reduceEqDiff,Nat.reduceAdd,Ff]
 refine⟨by simp only [aX,bo,aS,bD,aV,ne_eq,not_false_eq_true,bC,bR,aZ,aW,bZ,cu,aT,Nat.reduceLT,Nat.reduceEqDiff,reduceIte,Xw,aG,ac,aD Q,aD R,aD T,aQ Q,aQ R,aQ T],?_⟩
 simp only [BS,LB,Nat.reduceLT,Nat.reduceEqDiff,S.lds (b:=b) (o:=0) (n:=4) m1 (lbt rfl)]
 refine aw (S.store (i:=0) rfl Tryz.t37.2.1 (by intro x e;cases e) rfl (by simp only [ah,Xa,Xb,List.all_cons,List.all_nil,f1.2.1,f2.2.1,f3.2.1,Xw];rfl) (lbt rfl) ono) ?_
 clear S
 rintro F ⟨S,G⟩
 simp only [LC,ah,lay,Xa,Xb,Nat.reduceAdd]at S
 simp only [BS,ae]
 refine⟨_,uq (by decide) (by simp only [aT,ac,Nat.reduceEqDiff,reduceIte];exact gu Tryz.t37.1 Tryz.t37.2.1 (S.lds (b:=t) (o:=0) (n:=4) m0 (lbt rfl))),?_⟩
 exact⟨S.gr,A,B,C,rfl,⟨f.mo G K,j.mo G N,m.mo G E⟩,z,u.mo G E,Z⟩
end Go.Ab
end

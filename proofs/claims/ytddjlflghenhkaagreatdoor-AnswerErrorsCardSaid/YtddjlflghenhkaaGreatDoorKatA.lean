/- Nets, cells, flags: what the functions do (part 1). -/
import Derived.Test.YtddjlflghenhkaaGreatDoorKav
open Go.Ab.Tryz
open Go.Ab.Tryz renaming abEnv->zM
open List renaming range->zO,take->Xb,drop->Xc,getD_eq_getElem?_getD->Xd,getElem?_append_right->Xi,getElem?_append_left->Xj,flatMap_append->Xn,getElem?_eq_getElem->Xo,getElem?_map->Xp,take_succ_cons->Xq,length_append->Xr,ext_getElem?->Xt,drop_zero->Xu,take_zero->Xv,getElem_mem->Xx,mem_of_getElem?->Xy,length_flatMap->XA,map_const'->XB,append_nil->XE,getElem?_set->XF,nodup_append->XG,range_succ->XI,length_set->XJ,mem_range->XK,length_filter_le->XL,length_singleton->XM,flatMap_eq_foldl->XN,getElem?_eq_none->XO,getElem?_append->XP,drop_succ_cons->XQ
open And renaming intro->Xa
open Nat renaming lt_of_succ_le->Xe,zero_add->Xf,mul_one->Xg,zero_mul->Xh,le_trans->Xl,one_mul->Xm,ble_eq_true_of_le->Xw,le_refl->XD,zero_le->XR
open Int renaming cast_ofNat_Int->Xk,tmod_eq_emod_of_nonneg->Xz,toNat_natCast->XC
open Bool renaming and_true->Xs
open Option renaming getD_some->XH
set_option maxHeartbeats 4000000
set_option linter.defProp false
set_option linter.unusedVariables false
set_option linter.unusedSimpArgs false
namespace Go.Ab
variable{h h' h0:Hp}
variable{N S a b i j k m n s v x:Nat}
variable{A:Bool}
variable{Z:List Value}
variable{d e f l r:Value}
variable{K:Nat->Option Int}
variable{t:TypeId}
variable{xs:List Int}
theorem Si(a:OZ h):St NoM h h [] []:=St.init a
theorem aj{a b:Prop}(x:a)(y:b):a/\b:=⟨x,y⟩
set_option linter.defProp false in
def LC:=Xa @List.set_cons_zero.{0}<|Xa @List.set_cons_succ.{0}<|Xa @List.cons_append.{0}<|Xa @List.nil_append.{0}<|Xa @List.append_nil.{0}<|Xa @List.length_cons.{0}<|Xa @List.length_nil.{0}<|@Nat.add_zero
theorem lbt(h:Nat.ble a b=true):a<=b:=Nat.le_of_ble_eq_true h
theorem ono:(1:Nat)≠0:=Nat.one_ne_zero
set_option linter.defProp false in
def LB:=Xa @if_true.{1}<|Xa @if_false.{1}<|Xa @eq_self.{1}<|Xa @List.map_cons.{0,0}<|Xa @List.map_nil.{0,0}<|Xa @List.append_nil.{0}<|Xa @List.nil_append.{0}<|Xa @List.cons_append.{0}<|Xa @List.getElem?_cons_zero.{0}<|Xa @List.getElem?_cons_succ.{0}<|Xa @List.set_cons_zero.{0}<|Xa @List.set_cons_succ.{0}<|Xa @List.length_cons.{0}<|Xa @List.length_nil.{0}<|Xa @Nat.add_zero<|Xa @Nat.zero_add<|Xa @Nat.mul_one<|Xa @Nat.zero_mul<|Xa @cond_true.{1}<|Xa @cond_false.{1}<|Xa @decide_true<|Xa @decide_false<|Xa @Bool.and_true<|Xa @Bool.and_false<|Xa @Bool.not_false<|Xa @Bool.not_true<|Xa @true_and<|Xa @and_true<|Xa @Option.isSome_some.{0}<|@List.map_toArray.{0,0}
open Go.Proofs
namespace Tryz
abbrev TQ0(i:TypeId)(A:Bool)(S:Nat)(Z:List Value):Prop:=zM.agg i=some A/\zM.sz i=some S/\zM.zero i=some Z/\ez zM i=some false
theorem kTQ0{i:TypeId}(h:(zM.agg i,zM.sz i,zM.zero i,ez zM i)=(some A,some S,some Z,some false)):TQ0 i A S Z:=by simpa only [Prod.mk.injEq]using h
abbrev TQ1(i:TypeId)(U:TypeDesc)(A:Bool)(S:Nat)(Z:List Value):Prop:=zM.und i=some U/\zM.agg i=some A/\zM.sz i=some S/\zM.zero i=some Z/\mN zM i=true
theorem kTQ1{i:TypeId}{U:TypeDesc}(h:(zM.und i,zM.agg i,zM.sz i,zM.zero i,mN zM i)=(some U,some A,some S,some Z,true)):TQ1 i U A S Z:=by simpa only [Prod.mk.injEq]using h
abbrev TQ2(i:TypeId)(U:TypeDesc)(A:Bool)(S:Nat)(Z:List Value):Prop:=zM.und i=some U/\zM.agg i=some A/\zM.sz i=some S/\zM.zero i=some Z/\ez zM i=some false
theorem kTQ2{i:TypeId}{U:TypeDesc}(h:(zM.und i,zM.agg i,zM.sz i,zM.zero i,ez zM i)=(some U,some A,some S,some Z,some false)):TQ2 i U A S Z:=by simpa only [Prod.mk.injEq]using h
abbrev TQ3(i:TypeId)(A:Bool)(S:Nat)(Z:List Value)(P:List (Nat×Nat)):Prop:=zM.agg i=some A/\zM.sz i=some S/\zM.zero i=some Z/\mN zM i=true/\ez zM i=some false/\placesOf zM i=some P
theorem kTQ3{i:TypeId}{P:List (Nat×Nat)}(h:(zM.agg i,zM.sz i,zM.zero i,mN zM i,ez zM i,placesOf zM i)=(some A,some S,some Z,true,some false,some P)):TQ3 i A S Z P:=by simpa only [Prod.mk.injEq]using h
abbrev TQ4(i:TypeId)(U:TypeDesc)(A:Bool)(S:Nat)(Z:List Value):Prop:=zM.und i=some U/\zM.agg i=some A/\zM.sz i=some S/\zM.zero i=some Z/\qw zM i=true/\mN zM i=true/\ez zM i=some false
theorem kTQ4{i:TypeId}{U:TypeDesc}(h:(zM.und i,zM.agg i,zM.sz i,zM.zero i,qw zM i,mN zM i,ez zM i)=(some U,some A,some S,some Z,true,true,some false)):TQ4 i U A S Z:=by simpa only [Prod.mk.injEq]using h
abbrev TQ5(i:TypeId)(A:Bool)(S:Nat)(Z:List Value):Prop:=zM.agg i=some A/\zM.sz i=some S/\zM.zero i=some Z/\isIface zM i=true/\ez zM i=some false
theorem kTQ5{i:TypeId}(h:(zM.agg i,zM.sz i,zM.zero i,isIface zM i,ez zM i)=(some A,some S,some Z,true,some false)):TQ5 i A S Z:=by simpa only [Prod.mk.injEq]using h
abbrev TQ6(i:TypeId)(U:TypeDesc)(A:Bool)(S:Nat)(Z:List Value):Prop:=zM.und i=some U/\zM.agg i=some A/\zM.sz i=some S/\zM.zero i=some Z/\isSl zM i=true/\ez zM i=some false
theorem kTQ6{i:TypeId}{U:TypeDesc}(h:(zM.und i,zM.agg i,zM.sz i,zM.zero i,isSl zM i,ez zM i)=(some U,some A,some S,some Z,true,some false)):TQ6 i U A S Z:=by simpa only [Prod.mk.injEq]using h
abbrev TQ7(i:TypeId)(A:Bool)(S:Nat)(Z:List Value):Prop:=zM.agg i=some A/\zM.sz i=some S/\zM.zero i=some Z/\mN zM i=true/\ez zM i=some false
theorem kTQ7{i:TypeId}(h:(zM.agg i,zM.sz i,zM.zero i,mN zM i,ez zM i)=(some A,some S,some Z,true,some false)):TQ7 i A S Z:=by simpa only [Prod.mk.injEq]using h
abbrev TR0(i:TypeId)(f o1 o2 o3:Nat):Prop:=(∀(b o:Nat) (s:Option Nat),aG zM i (.pointer (some ⟨b,o,s⟩)) 0=some (.pointer (some ⟨b,o+f,none⟩))/\aG zM i (.pointer (some ⟨b,o,s⟩)) 1=some (.pointer (some ⟨b,o+o1,none⟩))/\aG zM i (.pointer (some ⟨b,o,s⟩)) 2=some (.pointer (some ⟨b,o+o2,none⟩))/\aG zM i (.pointer (some ⟨b,o,s⟩)) 3=some (.pointer (some ⟨b,o+o3,none⟩)))/\ ∀a c d e:Value,bG zM i (.agg ⟨[a,c,d,e]⟩) 0=some a/\bG zM i (.agg ⟨[a,c,d,e]⟩) 1=some c/\bG zM i (.agg ⟨[a,c,d,e]⟩) 2=some d/\bG zM i (.agg ⟨[a,c,d,e]⟩) 3=some e
abbrev TR1(i:TypeId)(d o1:Nat):Prop:=(∀(b o:Nat) (s:Option Nat),aG zM i (.pointer (some ⟨b,o,s⟩)) 0=some (.pointer (some ⟨b,o+d,none⟩))/\aG zM i (.pointer (some ⟨b,o,s⟩)) 1=some (.pointer (some ⟨b,o+o1,none⟩)))/\ ∀a c:Value,bG zM i (.agg ⟨[a,c]⟩) 0=some a/\bG zM i (.agg ⟨[a,c]⟩) 1=some c
abbrev TR2(i:TypeId)(c:Nat):Prop:=(∀(b o:Nat) (s:Option Nat),aG zM i (.pointer (some ⟨b,o,s⟩)) 0=some (.pointer (some ⟨b,o+c,none⟩)))/\ ∀a:Value,bG zM i (.agg ⟨[a]⟩) 0=some a
abbrev TR3(i:TypeId)(k o1 o2 o3 l m n p:Nat):Prop:=(∀(b o:Nat) (s:Option Nat),aG zM i (.pointer (some ⟨b,o,s⟩)) 0=some (.pointer (some ⟨b,o+k,none⟩))/\aG zM i (.pointer (some ⟨b,o,s⟩)) 1=some (.pointer (some ⟨b,o+o1,none⟩))/\aG zM i (.pointer (some ⟨b,o,s⟩)) 2=some (.pointer (some ⟨b,o+o2,none⟩))/\aG zM i (.pointer (some ⟨b,o,s⟩)) 3=some (.pointer (some ⟨b,o+o3,none⟩))/\aG zM i (.pointer (some ⟨b,o,s⟩)) 4=some (.pointer (some ⟨b,o+l,none⟩))/\aG zM i (.pointer (some ⟨b,o,s⟩)) 5=some (.pointer (some ⟨b,o+m,none⟩))/\aG zM i (.pointer (some ⟨b,o,s⟩)) 6=some (.pointer (some ⟨b,o+n,none⟩))/\aG zM i (.pointer (some ⟨b,o,s⟩)) 7=some (.pointer (some ⟨b,o+p,none⟩)))/\ ∀a c d e f g h j:Value,bG zM i (.agg ⟨[a,c,d,e,f,g,h,j]⟩) 0=some a/\bG zM i (.agg ⟨[a,c,d,e,f,g,h,j]⟩) 1=some c/\bG zM i (.agg ⟨[a,c,d,e,f,g,h,j]⟩) 2=some d/\bG zM i (.agg ⟨[a,c,d,e,f,g,h,j]⟩) 3=some e/\bG zM i (.agg ⟨[a,c,d,e,f,g,h,j]⟩) 4=some f/\bG zM i (.agg ⟨[a,c,d,e,f,g,h,j]⟩) 5=some g/\bG zM i (.agg ⟨[a,c,d,e,f,g,h,j]⟩) 6=some h/\bG zM i (.agg ⟨[a,c,d,e,f,g,h,j]⟩) 7=some j
abbrev TR4(i:TypeId)(h o1 o2:Nat):Prop:=(∀(b o:Nat) (s:Option Nat),aG zM i (.pointer (some ⟨b,o,s⟩)) 0=some (.pointer (some ⟨b,o+h,none⟩))/\aG zM i (.pointer (some ⟨b,o,s⟩)) 1=some (.pointer (some ⟨b,o+o1,none⟩))/\aG zM i (.pointer (some ⟨b,o,s⟩)) 2=some (.pointer (some ⟨b,o+o2,none⟩)))/\ ∀a c d e f g:Value,bG zM i (.agg ⟨[a,c,d,e,f,g]⟩) 0=some (.agg ⟨[a,c,d,e]⟩)/\bG zM i (.agg ⟨[a,c,d,e,f,g]⟩) 1=some f/\bG zM i (.agg ⟨[a,c,d,e,f,g]⟩) 2=some g
abbrev TR5(i:TypeId)(p o1 o2 o3 q r t u v w n:Nat):Prop:=(∀(b o:Nat) (s:Option Nat),aG zM i (.pointer (some ⟨b,o,s⟩)) 0=some (.pointer (some ⟨b,o+p,none⟩))/\aG zM i (.pointer (some ⟨b,o,s⟩)) 1=some (.pointer (some ⟨b,o+o1,none⟩))/\aG zM i (.pointer (some ⟨b,o,s⟩)) 2=some (.pointer (some ⟨b,o+o2,none⟩))/\aG zM i (.pointer (some ⟨b,o,s⟩)) 3=some (.pointer (some ⟨b,o+o3,none⟩))/\aG zM i (.pointer (some ⟨b,o,s⟩)) 4=some (.pointer (some ⟨b,o+q,none⟩))/\aG zM i (.pointer (some ⟨b,o,s⟩)) 5=some (.pointer (some ⟨b,o+r,none⟩))/\aG zM i (.pointer (some ⟨b,o,s⟩)) 6=some (.pointer (some ⟨b,o+t,none⟩))/\aG zM i (.pointer (some ⟨b,o,s⟩)) 7=some (.pointer (some ⟨b,o+u,none⟩))/\aG zM i (.pointer (some ⟨b,o,s⟩)) 8=some (.pointer (some ⟨b,o+v,none⟩))/\aG zM i (.pointer (some ⟨b,o,s⟩)) 9=some (.pointer (some ⟨b,o+w,none⟩))/\aG zM i (.pointer (some ⟨b,o,s⟩)) 10=some (.pointer (some ⟨b,o+n,none⟩)))/\ ∀c d e f g h j k l m a:Value,bG zM i (.agg ⟨[c,d,e,f,g,h,j,k,l,m,a]⟩) 0=some c/\bG zM i (.agg ⟨[c,d,e,f,g,h,j,k,l,m,a]⟩) 1=some d/\bG zM i (.agg ⟨[c,d,e,f,g,h,j,k,l,m,a]⟩) 2=some e/\bG zM i (.agg ⟨[c,d,e,f,g,h,j,k,l,m,a]⟩) 3=some f/\bG zM i (.agg ⟨[c,d,e,f,g,h,j,k,l,m,a]⟩) 4=some g/\bG zM i (.agg ⟨[c,d,e,f,g,h,j,k,l,m,a]⟩) 5=some h/\bG zM i (.agg ⟨[c,d,e,f,g,h,j,k,l,m,a]⟩) 6=some j/\bG zM i (.agg ⟨[c,d,e,f,g,h,j,k,l,m,a]⟩) 7=some k/\bG zM i (.agg ⟨[c,d,e,f,g,h,j,k,l,m,a]⟩) 8=some l/\bG zM i (.agg ⟨[c,d,e,f,g,h,j,k,l,m,a]⟩) 9=some m/\bG zM i (.agg ⟨[c,d,e,f,g,h,j,k,l,m,a]⟩) 10=some a
abbrev TR6(i:TypeId)(e o1 o2:Nat):Prop:=(∀(b o:Nat) (s:Option Nat),aG zM i (.pointer (some ⟨b,o,s⟩)) 0=some (.pointer (some ⟨b,o+e,none⟩))/\aG zM i (.pointer (some ⟨b,o,s⟩)) 1=some (.pointer (some ⟨b,o+o1,none⟩))/\aG zM i (.pointer (some ⟨b,o,s⟩)) 2=some (.pointer (some ⟨b,o+o2,none⟩)))/\ ∀a c d:Value,bG zM i (.agg ⟨[a,c,d]⟩) 0=some a/\bG zM i (.agg ⟨[a,c,d]⟩) 1=some c/\bG zM i (.agg ⟨[a,c,d]⟩) 2=some d
abbrev TR7(i:TypeId)(k o1 o2 o3:Nat):Prop:=(∀(b o:Nat) (s:Option Nat),aG zM i (.pointer (some ⟨b,o,s⟩)) 0=some (.pointer (some ⟨b,o+k,none⟩))/\aG zM i (.pointer (some ⟨b,o,s⟩)) 1=some (.pointer (some ⟨b,o+o1,none⟩))/\aG zM i (.pointer (some ⟨b,o,s⟩)) 2=some (.pointer (some ⟨b,o+o2,none⟩))/\aG zM i (.pointer (some ⟨b,o,s⟩)) 3=some (.pointer (some ⟨b,o+o3,none⟩)))/\ ∀a c d e f g h j:Value,bG zM i (.agg ⟨[a,c,d,e,f,g,h,j]⟩) 0=some (.agg ⟨[a,c]⟩)/\bG zM i (.agg ⟨[a,c,d,e,f,g,h,j]⟩) 1=some d/\bG zM i (.agg ⟨[a,c,d,e,f,g,h,j]⟩) 2=some e/\bG zM i (.agg ⟨[a,c,d,e,f,g,h,j]⟩) 3=some (.agg ⟨[f,g,h,j]⟩)
abbrev TR8(i:TypeId)(n o1 o2 o3 p:Nat):Prop:=(∀(b o:Nat) (s:Option Nat),aG zM i (.pointer (some ⟨b,o,s⟩)) 0=some (.pointer (some ⟨b,o+n,none⟩))/\aG zM i (.pointer (some ⟨b,o,s⟩)) 1=some (.pointer (some ⟨b,o+o1,none⟩))/\aG zM i (.pointer (some ⟨b,o,s⟩)) 2=some (.pointer (some ⟨b,o+o2,none⟩))/\aG zM i (.pointer (some ⟨b,o,s⟩)) 3=some (.pointer (some ⟨b,o+o3,none⟩))/\aG zM i (.pointer (some ⟨b,o,s⟩)) 4=some (.pointer (some ⟨b,o+p,none⟩)))/\ ∀c d e f g h j k l m a:Value,bG zM i (.agg ⟨[c,d,e,f,g,h,j,k,l,m,a]⟩) 0=some c/\bG zM i (.agg ⟨[c,d,e,f,g,h,j,k,l,m,a]⟩) 1=some (.agg ⟨[d,e,f,g]⟩)/\bG zM i (.agg ⟨[c,d,e,f,g,h,j,k,l,m,a]⟩) 2=some (.agg ⟨[h,j]⟩)/\bG zM i (.agg ⟨[c,d,e,f,g,h,j,k,l,m,a]⟩) 3=some (.agg ⟨[k,l,m]⟩)/\bG zM i (.agg ⟨[c,d,e,f,g,h,j,k,l,m,a]⟩) 4=some a
abbrev TR9(i:TypeId)(e o1:Nat):Prop:=(∀(b o:Nat) (s:Option Nat),aG zM i (.pointer (some ⟨b,o,s⟩)) 0=some (.pointer (some ⟨b,o+e,none⟩))/\aG zM i (.pointer (some ⟨b,o,s⟩)) 1=some (.pointer (some ⟨b,o+o1,none⟩)))/\ ∀a c d:Value,bG zM i (.agg ⟨[a,c,d]⟩) 0=some (.agg ⟨[a,c]⟩)/\bG zM i (.agg ⟨[a,c,d]⟩) 1=some d
abbrev TR10(i:TypeId)(h o1 o2 o3 j k:Nat):Prop:=(∀(b o:Nat) (s:Option Nat),aG zM i (.pointer (some ⟨b,o,s⟩)) 0=some (.pointer (some ⟨b,o+h,none⟩))/\aG zM i (.pointer (some ⟨b,o,s⟩)) 1=some (.pointer (some ⟨b,o+o1,none⟩))/\aG zM i (.pointer (some ⟨b,o,s⟩)) 2=some (.pointer (some ⟨b,o+o2,none⟩))/\aG zM i (.pointer (some ⟨b,o,s⟩)) 3=some (.pointer (some ⟨b,o+o3,none⟩))/\aG zM i (.pointer (some ⟨b,o,s⟩)) 4=some (.pointer (some ⟨b,o+j,none⟩))/\aG zM i (.pointer (some ⟨b,o,s⟩)) 5=some (.pointer (some ⟨b,o+k,none⟩)))/\ ∀a c d e f g:Value,bG zM i (.agg ⟨[a,c,d,e,f,g]⟩) 0=some a/\bG zM i (.agg ⟨[a,c,d,e,f,g]⟩) 1=some c/\bG zM i (.agg ⟨[a,c,d,e,f,g]⟩) 2=some d/\bG zM i (.agg ⟨[a,c,d,e,f,g]⟩) 3=some e/\bG zM i (.agg ⟨[a,c,d,e,f,g]⟩) 4=some f/\bG zM i (.agg ⟨[a,c,d,e,f,g]⟩) 5=some g
abbrev TR11(i:TypeId)(g o1 o2:Nat):Prop:=(∀(b o:Nat) (s:Option Nat),aG zM i (.pointer (some ⟨b,o,s⟩)) 0=some (.pointer (some ⟨b,o+g,none⟩))/\aG zM i (.pointer (some ⟨b,o,s⟩)) 1=some (.pointer (some ⟨b,o+o1,none⟩))/\aG zM i (.pointer (some ⟨b,o,s⟩)) 2=some (.pointer (some ⟨b,o+o2,none⟩)))/\ ∀a c d e f:Value,bG zM i (.agg ⟨[a,c,d,e,f]⟩) 0=some a/\bG zM i (.agg ⟨[a,c,d,e,f]⟩) 1=some (.agg ⟨[c,d,e]⟩)/\bG zM i (.agg ⟨[a,c,d,e,f]⟩) 2=some f
theorem t1:TQ0 1 false 1 [.nilFunc]:=kTQ0 (by kernel_rfl)
theorem t2:TQ1 2 (.int .i64) false 1 [.int .i64 0]:=kTQ1 (by kernel_rfl)
theorem e2E:fu zM 2 8 1 [.int .i64 0]:=⟨⟨_,rfl,by kernel_rfl,by kernel_rfl⟩,t2.2.2.2.1,rfl⟩
theorem t3:TQ1 3 (.int .i64) false 1 [.int .i64 0]:=kTQ1 (by kernel_rfl)
theorem e3E:fu zM 3 8 1 [.int .i64 0]:=⟨⟨_,rfl,by kernel_rfl,by kernel_rfl⟩,t3.2.2.2.1,rfl⟩
theorem t4:TQ2 4 .bool false 1 [.bool false]:=kTQ2 (by kernel_rfl)
theorem e4E:fu zM 4 1 1 [.bool false]:=⟨⟨_,rfl,by kernel_rfl,by kernel_rfl⟩,t4.2.2.2.1,rfl⟩
theorem t5:TQ1 5 (.int .u8) false 1 [.int .u8 0]:=kTQ1 (by kernel_rfl)
theorem e5E:fu zM 5 1 1 [.int .u8 0]:=⟨⟨_,rfl,by kernel_rfl,by kernel_rfl⟩,t5.2.2.2.1,rfl⟩
theorem t6:TQ1 6 (.int .u8) false 1 [.int .u8 0]:=kTQ1 (by kernel_rfl)
theorem t7:TQ3 7 true 4 [.int .i64 0,.int .i64 0,.bool false,.int .u8 0] [(0,1),(1,1),(2,1),(3,1)]:=kTQ3 (by kernel_rfl)
theorem r7:TR0 7 0 1 2 3:=⟨fun _ _ _=>⟨rfl,rfl,rfl,rfl⟩,fun _ _ _ _=>⟨rfl,rfl,rfl,rfl⟩⟩
theorem t8:TQ3 8 true 4 [.int .i64 0,.int .i64 0,.bool false,.int .u8 0] [(0,1),(1,1),(2,1),(3,1)]:=kTQ3 (by kernel_rfl)
theorem r8:TR0 8 0 1 2 3:=⟨fun _ _ _=>⟨rfl,rfl,rfl,rfl⟩,fun _ _ _ _=>⟨rfl,rfl,rfl,rfl⟩⟩
theorem t9:TQ2 9 .string false 1 [.string ⟨#[]⟩]:=kTQ2 (by kernel_rfl)
theorem t10:TQ2 10 .string false 1 [.string ⟨#[]⟩]:=kTQ2 (by kernel_rfl)
theorem t11:TQ2 11 .string false 1 [.string ⟨#[]⟩]:=kTQ2 (by kernel_rfl)
theorem t12:TQ1 12 (.int .u64) false 1 [.int .u64 0]:=kTQ1 (by kernel_rfl)
theorem t13:TQ3 13 true 2 [.string ⟨#[]⟩,.int .u64 0] [(0,1),(1,1)]:=kTQ3 (by kernel_rfl)
theorem r13:TR1 13 0 1:=⟨fun _ _ _=>⟨rfl,rfl⟩,fun _ _=>⟨rfl,rfl⟩⟩
theorem t14:TQ3 14 true 2 [.string ⟨#[]⟩,.int .u64 0] [(0,1),(1,1)]:=kTQ3 (by kernel_rfl)
theorem r14:TR1 14 0 1:=⟨fun _ _ _=>⟨rfl,rfl⟩,fun _ _=>⟨rfl,rfl⟩⟩
theorem t15:TQ4 15 (.pointer 367) false 1 [.pointer none]:=kTQ4 (by kernel_rfl)
theorem t16:TQ4 16 (.pointer 370) false 1 [.pointer none]:=kTQ4 (by kernel_rfl)
theorem t17:TQ4 17 (.pointer 377) false 1 [.pointer none]:=kTQ4 (by kernel_rfl)
theorem t18:TQ3 18 true 1 [.pointer none] [(0,1)]:=kTQ3 (by kernel_rfl)
theorem r18:TR2 18 0:=⟨fun _ _ _=>rfl,fun _=>rfl⟩
theorem t19:TQ3 19 true 1 [.pointer none] [(0,1)]:=kTQ3 (by kernel_rfl)
theorem r19:TR2 19 0:=⟨fun _ _ _=>rfl,fun _=>rfl⟩
theorem t20:TQ5 20 false 1 [.nilIface]:=kTQ5 (by kernel_rfl)
theorem t21:TQ1 21 (.int .i32) false 1 [.int .i32 0]:=kTQ1 (by kernel_rfl)
theorem t22:TQ6 22 (.slice 5) false 1 [.slice none 0 0]:=kTQ6 (by kernel_rfl)
theorem t23:TQ6 23 (.slice 2) false 1 [.slice none 0 0]:=kTQ6 (by kernel_rfl)
theorem e23E:fu zM 23 24 1 [.slice none 0 0]:=⟨⟨_,rfl,by kernel_rfl,by kernel_rfl⟩,t23.2.2.2.1,rfl⟩
theorem t24:TQ1 24 (.int .i8) false 1 [.int .i8 0]:=kTQ1 (by kernel_rfl)
theorem t25:TQ3 25 true 8 [.slice none 0 0,.slice none 0 0,.slice none 0 0,.int .u8 0,.slice none 0 0,.int .u8 0,.int .u8 0,.int .i8 0] [(0,1),(1,1),(2,1),(3,1),(4,1),(5,1),(6,1),(7,1)]:=kTQ3 (by kernel_rfl)
theorem r25:TR3 25 0 1 2 3 4 5 6 7:=⟨fun _ _ _=>⟨rfl,rfl,rfl,rfl,rfl,rfl,rfl,rfl⟩,fun _ _ _ _ _ _ _ _=>⟨rfl,rfl,rfl,rfl,rfl,rfl,rfl,rfl⟩⟩
theorem t26:TQ3 26 true 8 [.slice none 0 0,.slice none 0 0,.slice none 0 0,.int .u8 0,.slice none 0 0,.int .u8 0,.int .u8 0,.int .i8 0] [(0,1),(1,1),(2,1),(3,1),(4,1),(5,1),(6,1),(7,1)]:=kTQ3 (by kernel_rfl)
theorem r26:TR3 26 0 1 2 3 4 5 6 7:=⟨fun _ _ _=>⟨rfl,rfl,rfl,rfl,rfl,rfl,rfl,rfl⟩,fun _ _ _ _ _ _ _ _=>⟨rfl,rfl,rfl,rfl,rfl,rfl,rfl,rfl⟩⟩
theorem t27:TQ0 27 false 1 [.nilFunc]:=kTQ0 (by kernel_rfl)
theorem t28:TQ4 28 (.pointer 36) false 1 [.pointer none]:=kTQ4 (by kernel_rfl)
theorem t31:TQ4 31 (.pointer 92) false 1 [.pointer none]:=kTQ4 (by kernel_rfl)
theorem t32:TQ4 32 (.pointer 168) false 1 [.pointer none]:=kTQ4 (by kernel_rfl)
theorem t33:TQ4 33 (.pointer 177) false 1 [.pointer none]:=kTQ4 (by kernel_rfl)
theorem t34:TQ4 34 (.pointer 252) false 1 [.pointer none]:=kTQ4 (by kernel_rfl)
theorem t36:TQ3 36 true 4 [.pointer none,.pointer none,.pointer none,.pointer none] [(0,1),(1,1),(2,1),(3,1)]:=kTQ3 (by kernel_rfl)
theorem r36:TR0 36 0 1 2 3:=⟨fun _ _ _=>⟨rfl,rfl,rfl,rfl⟩,fun _ _ _ _=>⟨rfl,rfl,rfl,rfl⟩⟩
theorem t39:TQ3 39 true 2 [.pointer none,.pointer none] [(0,1),(1,1)]:=kTQ3 (by kernel_rfl)
theorem r39:TR1 39 0 1:=⟨fun _ _ _=>⟨rfl,rfl⟩,fun _ _=>⟨rfl,rfl⟩⟩
theorem t40:TQ1 40 (.int .i64) false 1 [.int .i64 0]:=kTQ1 (by kernel_rfl)
theorem t41:TQ6 41 (.slice 3) false 1 [.slice none 0 0]:=kTQ6 (by kernel_rfl)
theorem e41E:fu zM 41 24 1 [.slice none 0 0]:=⟨⟨_,rfl,by kernel_rfl,by kernel_rfl⟩,t41.2.2.2.1,rfl⟩
theorem t43:TQ3 43 true 4 [.int .i64 0,.int .i64 0,.slice none 0 0,.slice none 0 0] [(0,1),(1,1),(2,1),(3,1)]:=kTQ3 (by kernel_rfl)
theorem r43:TR0 43 0 1 2 3:=⟨fun _ _ _=>⟨rfl,rfl,rfl,rfl⟩,fun _ _ _ _=>⟨rfl,rfl,rfl,rfl⟩⟩
theorem t44:TQ6 44 (.slice 143) false 1 [.slice none 0 0]:=kTQ6 (by kernel_rfl)
theorem t48:TQ3 48 true 4 [.int .i64 0,.int .i64 0,.int .i64 0,.int .i64 0] [(0,1),(1,1),(2,1),(3,1)]:=kTQ3 (by kernel_rfl)
theorem r48:TR0 48 0 1 2 3:=⟨fun _ _ _=>⟨rfl,rfl,rfl,rfl⟩,fun _ _ _ _=>⟨rfl,rfl,rfl,rfl⟩⟩
theorem t57:TQ3 57 true 4 [.int .i64 0,.slice none 0 0,.slice none 0 0,.slice none 0 0] [(0,1),(1,1),(2,1),(3,1)]:=kTQ3 (by kernel_rfl)
theorem r57:TR0 57 0 1 2 3:=⟨fun _ _ _=>⟨rfl,rfl,rfl,rfl⟩,fun _ _ _ _=>⟨rfl,rfl,rfl,rfl⟩⟩
theorem t79:TQ6 79 (.slice 23) false 1 [.slice none 0 0]:=kTQ6 (by kernel_rfl)
theorem t90:TQ6 90 (.slice 41) false 1 [.slice none 0 0]:=kTQ6 (by kernel_rfl)
theorem t92:TQ3 92 true 6 [.int .i64 0,.slice none 0 0,.slice none 0 0,.slice none 0 0,.slice none 0 0,.slice none 0 0] [(0,4),(4,1),(5,1)]:=kTQ3 (by kernel_rfl)
theorem r92:TR4 92 0 4 5:=⟨fun _ _ _=>⟨rfl,rfl,rfl⟩,fun _ _ _ _ _ _=>⟨rfl,rfl,rfl⟩⟩
theorem t143:TQ3 143 true 4 [.int .i64 0,.int .i64 0,.int .i64 0,.int .i64 0] [(0,1),(1,1),(2,1),(3,1)]:=kTQ3 (by kernel_rfl)
theorem r143:TR0 143 0 1 2 3:=⟨fun _ _ _=>⟨rfl,rfl,rfl,rfl⟩,fun _ _ _ _=>⟨rfl,rfl,rfl,rfl⟩⟩
theorem e143E:fu zM 143 32 4 [.int .i64 0,.int .i64 0,.int .i64 0,.int .i64 0]:=⟨⟨_,rfl,by kernel_rfl,by kernel_rfl⟩,t143.2.2.1,rfl⟩
theorem t168:TQ3 168 true 4 [.int .i64 0,.slice none 0 0,.slice none 0 0,.slice none 0 0] [(0,1),(1,1),(2,1),(3,1)]:=kTQ3 (by kernel_rfl)
theorem r168:TR0 168 0 1 2 3:=⟨fun _ _ _=>⟨rfl,rfl,rfl,rfl⟩,fun _ _ _ _=>⟨rfl,rfl,rfl,rfl⟩⟩
theorem t177:TQ3 177 true 2 [.slice none 0 0,.int .i64 0] [(0,1),(1,1)]:=kTQ3 (by kernel_rfl)
theorem r177:TR1 177 0 1:=⟨fun _ _ _=>⟨rfl,rfl⟩,fun _ _=>⟨rfl,rfl⟩⟩
theorem t182:TQ4 182 (.pointer 5) false 1 [.pointer none]:=kTQ4 (by kernel_rfl)
theorem t252:TQ3 252 true 4 [.int .i64 0,.int .i64 0,.int .i64 0,.slice none 0 0] [(0,1),(1,1),(2,1),(3,1)]:=kTQ3 (by kernel_rfl)
theorem r252:TR0 252 0 1 2 3:=⟨fun _ _ _=>⟨rfl,rfl,rfl,rfl⟩,fun _ _ _ _=>⟨rfl,rfl,rfl,rfl⟩⟩
theorem t302:TQ1 302 (.int .u8) false 1 [.int .u8 0]:=kTQ1 (by kernel_rfl)
theorem t357:TQ1 357 (.int .u32) false 1 [.int .u32 0]:=kTQ1 (by kernel_rfl)
theorem t367:TQ3 367 true 4 [.pointer none,.pointer none,.pointer none,.string ⟨#[]⟩] [(0,1),(1,1),(2,1),(3,1)]:=kTQ3 (by kernel_rfl)
theorem r367:TR0 367 0 1 2 3:=⟨fun _ _ _=>⟨rfl,rfl,rfl,rfl⟩,fun _ _ _ _=>⟨rfl,rfl,rfl,rfl⟩⟩
theorem t368:TQ2 368 (.array 0 16) true 0 []:=kTQ2 (by kernel_rfl)
theorem t370:TQ7 370 true 0 []:=kTQ7 (by kernel_rfl)
theorem t372:TQ1 372 (.int .u8) false 1 [.int .u8 0]:=kTQ1 (by kernel_rfl)
theorem t373:TQ0 373 false 1 [.nilFunc]:=kTQ0 (by kernel_rfl)
theorem t374:TQ1 374 (.int .i32) false 1 [.int .i32 0]:=kTQ1 (by kernel_rfl)
theorem t375:TQ1 375 (.int .i32) false 1 [.int .i32 0]:=kTQ1 (by kernel_rfl)
theorem t377:TQ3 377 true 11 [.int .u64 0,.int .u64 0,.int .u32 0,.int .u8 0,.int .u8 0,.int .u8 0,.int .u8 0,.nilFunc,.pointer none,.int .i32 0,.int .i32 0] [(0,1),(1,1),(2,1),(3,1),(4,1),(5,1),(6,1),(7,1),(8,1),(9,1),(10,1)]:=kTQ3 (by kernel_rfl)
theorem r377:TR5 377 0 1 2 3 4 5 6 7 8 9 10:=⟨fun _ _ _=>⟨rfl,rfl,rfl,rfl,rfl,rfl,rfl,rfl,rfl,rfl,rfl⟩,fun _ _ _ _ _ _ _ _ _ _ _=>⟨rfl,rfl,rfl,rfl,rfl,rfl,rfl,rfl,rfl,rfl,rfl⟩⟩
theorem t55:TQ6 55 (.slice 135) false 1 [.slice none 0 0]:=kTQ6 (by kernel_rfl)
theorem t63:TQ2 63 (.array 3 48) true 12 [.int .i64 0,.int .i64 0,.int .i64 0,.int .i64 0,.int .i64 0,.int .i64 0,.int .i64 0,.int .i64 0,.int .i64 0,.int .i64 0,.int .i64 0,.int .i64 0]:=kTQ2 (by kernel_rfl)
theorem t135:TQ3 135 true 3 [.int .i64 0,.int .i64 0,.int .i64 0] [(0,1),(1,1),(2,1)]:=kTQ3 (by kernel_rfl)
theorem r135:TR6 135 0 1 2:=⟨fun _ _ _=>⟨rfl,rfl,rfl⟩,fun _ _ _=>⟨rfl,rfl,rfl⟩⟩
theorem e135E:fu zM 135 24 3 [.int .i64 0,.int .i64 0,.int .i64 0]:=⟨⟨_,rfl,by kernel_rfl,by kernel_rfl⟩,t135.2.2.1,rfl⟩
theorem e4:zM.fn 4=some Tryz.f4:=by kernel_rfl
theorem e5:zM.fn 5=some Tryz.f5:=by kernel_rfl
theorem t29:TQ0 29 false 1 [.nilFunc]:=kTQ0 (by kernel_rfl)
theorem t30:TQ0 30 false 1 [.nilFunc]:=kTQ0 (by kernel_rfl)
theorem t35:TQ3 35 true 4 [.pointer none,.pointer none,.pointer none,.pointer none] [(0,1),(1,1),(2,1),(3,1)]:=kTQ3 (by kernel_rfl)
theorem r35:TR0 35 0 1 2 3:=⟨fun _ _ _=>⟨rfl,rfl,rfl,rfl⟩,fun _ _ _ _=>⟨rfl,rfl,rfl,rfl⟩⟩
theorem t37:TQ0 37 false 1 [.nilFunc]:=kTQ0 (by kernel_rfl)
theorem t38:TQ3 38 true 2 [.pointer none,.pointer none] [(0,1),(1,1)]:=kTQ3 (by kernel_rfl)
theorem r38:TR1 38 0 1:=⟨fun _ _ _=>⟨rfl,rfl⟩,fun _ _=>⟨rfl,rfl⟩⟩
theorem t42:TQ3 42 true 4 [.int .i64 0,.int .i64 0,.slice none 0 0,.slice none 0 0] [(0,1),(1,1),(2,1),(3,1)]:=kTQ3 (by kernel_rfl)
theorem r42:TR0 42 0 1 2 3:=⟨fun _ _ _=>⟨rfl,rfl,rfl,rfl⟩,fun _ _ _ _=>⟨rfl,rfl,rfl,rfl⟩⟩
theorem t46:TQ0 46 false 1 [.nilFunc]:=kTQ0 (by kernel_rfl)
theorem t47:TQ3 47 true 4 [.int .i64 0,.int .i64 0,.int .i64 0,.int .i64 0] [(0,1),(1,1),(2,1),(3,1)]:=kTQ3 (by kernel_rfl)
theorem r47:TR0 47 0 1 2 3:=⟨fun _ _ _=>⟨rfl,rfl,rfl,rfl⟩,fun _ _ _ _=>⟨rfl,rfl,rfl,rfl⟩⟩
theorem t71:TQ4 71 (.pointer 73) false 1 [.pointer none]:=kTQ4 (by kernel_rfl)
theorem t73:TQ3 73 true 2 [.slice none 0 0,.int .i64 0] [(0,1),(1,1)]:=kTQ3 (by kernel_rfl)
theorem r73:TR1 73 0 1:=⟨fun _ _ _=>⟨rfl,rfl⟩,fun _ _=>⟨rfl,rfl⟩⟩
theorem t75:TQ5 75 false 1 [.nilIface]:=kTQ5 (by kernel_rfl)
theorem t87:TQ1 87 (.int .u64) false 1 [.int .u64 0]:=kTQ1 (by kernel_rfl)
theorem e8:zM.fn 8=some Tryz.f8:=by kernel_rfl
theorem e9:zM.fn 9=some Tryz.f9:=by kernel_rfl
theorem e10:zM.fn 10=some Tryz.f10:=by kernel_rfl
theorem t96:TQ3 96 true 3 [.int .i64 0,.slice none 0 0,.slice none 0 0] [(0,1),(1,1),(2,1)]:=kTQ3 (by kernel_rfl)
theorem r96:TR6 96 0 1 2:=⟨fun _ _ _=>⟨rfl,rfl,rfl⟩,fun _ _ _=>⟨rfl,rfl,rfl⟩⟩
theorem t100:TQ6 100 (.slice 4) false 1 [.slice none 0 0]:=kTQ6 (by kernel_rfl)
theorem t102:TQ3 102 true 4 [.int .i64 0,.int .i64 0,.slice none 0 0,.slice none 0 0] [(0,1),(1,1),(2,1),(3,1)]:=kTQ3 (by kernel_rfl)
theorem r102:TR0 102 0 1 2 3:=⟨fun _ _ _=>⟨rfl,rfl,rfl,rfl⟩,fun _ _ _ _=>⟨rfl,rfl,rfl,rfl⟩⟩
theorem e11:zM.fn 11=some Tryz.f11:=by kernel_rfl
theorem e12:zM.fn 12=some Tryz.f12:=by kernel_rfl
theorem e13:zM.fn 13=some Tryz.f13:=by kernel_rfl
theorem t110:TQ4 110 (.pointer 112) false 1 [.pointer none]:=kTQ4 (by kernel_rfl)
theorem t112:TQ3 112 true 8 [.pointer none,.pointer none,.pointer none,.pointer none,.int .i64 0,.int .i64 0,.int .i64 0,.int .i64 0] [(0,2),(2,1),(3,1),(4,4)]:=kTQ3 (by kernel_rfl)
theorem r112:TR7 112 0 2 3 4:=⟨fun _ _ _=>⟨rfl,rfl,rfl,rfl⟩,fun _ _ _ _ _ _ _ _=>⟨rfl,rfl,rfl,rfl⟩⟩
theorem t114:TQ0 114 false 1 [.nilFunc]:=kTQ0 (by kernel_rfl)
theorem t117:TQ0 117 false 1 [.nilFunc]:=kTQ0 (by kernel_rfl)
theorem t118:TQ2 118 (.map 3 117) false 1 [.map none]:=kTQ2 (by kernel_rfl)
theorem e14:zM.fn 14=some Tryz.f14:=by kernel_rfl
theorem t52:TQ0 52 false 1 [.nilFunc]:=kTQ0 (by kernel_rfl)
theorem t124:TQ0 124 false 1 [.nilFunc]:=kTQ0 (by kernel_rfl)
theorem t126:TQ3 126 true 3 [.bool false,.bool false,.nilFunc] [(0,1),(1,1),(2,1)]:=kTQ3 (by kernel_rfl)
theorem r126:TR6 126 0 1 2:=⟨fun _ _ _=>⟨rfl,rfl,rfl⟩,fun _ _ _=>⟨rfl,rfl,rfl⟩⟩
theorem t127:TQ2 127 (.array 6 126) true 18 [.bool false,.bool false,.nilFunc,.bool false,.bool false,.nilFunc,.bool false,.bool false,.nilFunc,.bool false,.bool false,.nilFunc,.bool false,.bool false,.nilFunc,.bool false,.bool false,.nilFunc]:=kTQ2 (by kernel_rfl)
theorem e15:zM.fn 15=some Tryz.f15:=by kernel_rfl
theorem e17:zM.fn 17=some Tryz.f17:=by kernel_rfl
theorem e18:zM.fn 18=some Tryz.f18:=by kernel_rfl
theorem e19:zM.fn 19=some Tryz.f19:=by kernel_rfl
theorem t132:TQ0 132 false 1 [.nilFunc]:=kTQ0 (by kernel_rfl)
theorem e20:zM.fn 20=some Tryz.f20:=by kernel_rfl
theorem e21:zM.fn 21=some Tryz.f21:=by kernel_rfl
theorem e28:zM.fn 28=some Tryz.f28:=by kernel_rfl
theorem e31:zM.fn 31=some Tryz.f31:=by kernel_rfl
theorem t155:TQ3 155 true 4 [.int .i64 0,.int .i64 0,.int .i64 0,.int .i64 0] [(0,1),(1,1),(2,1),(3,1)]:=kTQ3 (by kernel_rfl)
theorem r155:TR0 155 0 1 2 3:=⟨fun _ _ _=>⟨rfl,rfl,rfl,rfl⟩,fun _ _ _ _=>⟨rfl,rfl,rfl,rfl⟩⟩
theorem t157:TQ4 157 (.pointer 155) false 1 [.pointer none]:=kTQ4 (by kernel_rfl)
theorem t159:TQ3 159 true 1 [.pointer none] [(0,1)]:=kTQ3 (by kernel_rfl)
theorem r159:TR2 159 0:=⟨fun _ _ _=>rfl,fun _=>rfl⟩
theorem e32:zM.fn 32=some Tryz.f32:=by kernel_rfl
theorem t164:TQ0 164 false 1 [.nilFunc]:=kTQ0 (by kernel_rfl)
theorem t166:TQ0 166 false 1 [.nilFunc]:=kTQ0 (by kernel_rfl)
theorem e33:zM.fn 33=some Tryz.f33:=by kernel_rfl
theorem e34:zM.fn 34=some Tryz.f34:=by kernel_rfl
theorem t172:TQ0 172 false 1 [.nilFunc]:=kTQ0 (by kernel_rfl)
theorem t174:TQ0 174 false 1 [.nilFunc]:=kTQ0 (by kernel_rfl)
theorem e35:zM.fn 35=some Tryz.f35:=by kernel_rfl
theorem e36:zM.fn 36=some Tryz.f36:=by kernel_rfl
theorem e37:zM.fn 37=some Tryz.f37:=by kernel_rfl
theorem e38:zM.fn 38=some Tryz.f38:=by kernel_rfl
theorem t183:TQ0 183 false 1 [.nilFunc]:=kTQ0 (by kernel_rfl)
theorem e39:zM.fn 39=some Tryz.f39:=by kernel_rfl
theorem e40:zM.fn 40=some Tryz.f40:=by kernel_rfl
theorem e41:zM.fn 41=some Tryz.f41:=by kernel_rfl
theorem e42:zM.fn 42=some Tryz.f42:=by kernel_rfl
theorem t185:TQ0 185 false 1 [.nilFunc]:=kTQ0 (by kernel_rfl)
theorem t188:TQ3 188 true 2 [.nilFunc,.int .i64 0] [(0,1),(1,1)]:=kTQ3 (by kernel_rfl)
theorem r188:TR1 188 0 1:=⟨fun _ _ _=>⟨rfl,rfl⟩,fun _ _=>⟨rfl,rfl⟩⟩
theorem e188E:fu zM 188 16 2 [.nilFunc,.int .i64 0]:=⟨⟨_,rfl,by kernel_rfl,by kernel_rfl⟩,t188.2.2.1,rfl⟩
theorem t257:TQ6 257 (.slice 188) false 1 [.slice none 0 0]:=kTQ6 (by kernel_rfl)
theorem e43:zM.fn 43=some Tryz.f43:=by kernel_rfl
theorem t192:TQ0 192 false 1 [.nilFunc]:=kTQ0 (by kernel_rfl)
theorem e44:zM.fn 44=some Tryz.f44:=by kernel_rfl
theorem t195:TQ4 195 (.pointer 264) false 1 [.pointer none]:=kTQ4 (by kernel_rfl)
theorem t203:TQ0 203 false 1 [.nilFunc]:=kTQ0 (by kernel_rfl)
theorem t261:TQ4 261 (.pointer 325) false 1 [.pointer none]:=kTQ4 (by kernel_rfl)
theorem t264:TQ3 264 true 8 [.pointer none,.pointer none,.slice none 0 0,.slice none 0 0,.slice none 0 0,.nilFunc,.nilFunc,.slice none 0 0] [(0,1),(1,1),(2,1),(3,1),(4,1),(5,1),(6,1),(7,1)]:=kTQ3 (by kernel_rfl)
theorem r264:TR3 264 0 1 2 3 4 5 6 7:=⟨fun _ _ _=>⟨rfl,rfl,rfl,rfl,rfl,rfl,rfl,rfl⟩,fun _ _ _ _ _ _ _ _=>⟨rfl,rfl,rfl,rfl,rfl,rfl,rfl,rfl⟩⟩
theorem e45:zM.fn 45=some Tryz.f45:=by kernel_rfl
theorem t200:TQ0 200 false 1 [.nilFunc]:=kTQ0 (by kernel_rfl)
theorem e46:zM.fn 46=some Tryz.f46:=by kernel_rfl
theorem t104:TQ3 104 true 1 [.int .i64 0] [(0,1)]:=kTQ3 (by kernel_rfl)
theorem r104:TR2 104 0:=⟨fun _ _ _=>rfl,fun _=>rfl⟩
theorem e47:zM.fn 47=some Tryz.f47:=by kernel_rfl
theorem t204:TQ2 204 (.array 4 1) true 4 [.nilFunc,.nilFunc,.nilFunc,.nilFunc]:=kTQ2 (by kernel_rfl)
theorem e48:zM.fn 48=some Tryz.f48:=by kernel_rfl
theorem e49:zM.fn 49=some Tryz.f49:=by kernel_rfl
theorem t206:TQ4 206 (.pointer 210) false 1 [.pointer none]:=kTQ4 (by kernel_rfl)
theorem t207:TQ4 207 (.pointer 274) false 1 [.pointer none]:=kTQ4 (by kernel_rfl)
theorem t208:TQ2 208 (.array 2 207) true 2 [.pointer none,.pointer none]:=kTQ2 (by kernel_rfl)
theorem t210:TQ3 210 true 11 [.pointer none,.int .i64 0,.int .i64 0,.slice none 0 0,.slice none 0 0,.pointer none,.pointer none,.int .i64 0,.slice none 0 0,.slice none 0 0,.int .i64 0] [(0,1),(1,4),(5,2),(7,3),(10,1)]:=kTQ3 (by kernel_rfl)
theorem r210:TR8 210 0 1 5 7 10:=⟨fun _ _ _=>⟨rfl,rfl,rfl,rfl,rfl⟩,fun _ _ _ _ _ _ _ _ _ _ _=>⟨rfl,rfl,rfl,rfl,rfl⟩⟩
theorem t212:TQ0 212 false 1 [.nilFunc]:=kTQ0 (by kernel_rfl)
theorem t213:TQ0 213 false 1 [.nilFunc]:=kTQ0 (by kernel_rfl)
theorem t230:TQ2 230 (.map 3 3) false 1 [.map none]:=kTQ2 (by kernel_rfl)
theorem t272:TQ2 272 (.map 3 2) false 1 [.map none]:=kTQ2 (by kernel_rfl)
theorem t274:TQ3 274 true 8 [.pointer none,.int .i64 0,.int .i64 0,.nilFunc,.nilFunc,.map none,.map none,.map none] [(0,1),(1,1),(2,1),(3,1),(4,1),(5,1),(6,1),(7,1)]:=kTQ3 (by kernel_rfl)
theorem r274:TR3 274 0 1 2 3 4 5 6 7:=⟨fun _ _ _=>⟨rfl,rfl,rfl,rfl,rfl,rfl,rfl,rfl⟩,fun _ _ _ _ _ _ _ _=>⟨rfl,rfl,rfl,rfl,rfl,rfl,rfl,rfl⟩⟩
theorem e50:zM.fn 50=some Tryz.f50:=by kernel_rfl
theorem e51:zM.fn 51=some Tryz.f51:=by kernel_rfl
theorem e52:zM.fn 52=some Tryz.f52:=by kernel_rfl
theorem t113:TQ0 113 false 1 [.nilFunc]:=kTQ0 (by kernel_rfl)
theorem e53:zM.fn 53=some Tryz.f53:=by kernel_rfl
theorem e54:zM.fn 54=some Tryz.f54:=by kernel_rfl
theorem e55:zM.fn 55=some Tryz.f55:=by kernel_rfl
theorem e56:zM.fn 56=some Tryz.f56:=by kernel_rfl
theorem e57:zM.fn 57=some Tryz.f57:=by kernel_rfl
theorem t122:TQ3 122 true 1 [.int .i64 0] [(0,1)]:=kTQ3 (by kernel_rfl)
theorem r122:TR2 122 0:=⟨fun _ _ _=>rfl,fun _=>rfl⟩
theorem e58:zM.fn 58=some Tryz.f58:=by kernel_rfl
theorem e59:zM.fn 59=some Tryz.f59:=by kernel_rfl
theorem e60:zM.fn 60=some Tryz.f60:=by kernel_rfl
theorem t98:TQ0 98 false 1 [.nilFunc]:=kTQ0 (by kernel_rfl)
theorem e61:zM.fn 61=some Tryz.f61:=by kernel_rfl
theorem e62:zM.fn 62=some Tryz.f62:=by kernel_rfl
theorem e63:zM.fn 63=some Tryz.f63:=by kernel_rfl
theorem e64:zM.fn 64=some Tryz.f64:=by kernel_rfl
theorem t131:TQ0 131 false 1 [.nilFunc]:=kTQ0 (by kernel_rfl)
theorem e65:zM.fn 65=some Tryz.f65:=by kernel_rfl
theorem e75:zM.fn 75=some Tryz.f75:=by kernel_rfl
theorem e76:zM.fn 76=some Tryz.f76:=by kernel_rfl
theorem e77:zM.fn 77=some Tryz.f77:=by kernel_rfl
theorem t241:TQ0 241 false 1 [.nilFunc]:=kTQ0 (by kernel_rfl)
theorem e79:zM.fn 79=some Tryz.f79:=by kernel_rfl
theorem e80:zM.fn 80=some Tryz.f80:=by kernel_rfl
theorem e81:zM.fn 81=some Tryz.f81:=by kernel_rfl
theorem e82:zM.fn 82=some Tryz.f82:=by kernel_rfl
theorem t163:TQ0 163 false 1 [.nilFunc]:=kTQ0 (by kernel_rfl)
theorem e83:zM.fn 83=some Tryz.f83:=by kernel_rfl
theorem t245:TQ3 245 true 3 [.slice none 0 0,.slice none 0 0,.slice none 0 0] [(0,1),(1,1),(2,1)]:=kTQ3 (by kernel_rfl)
theorem r245:TR6 245 0 1 2:=⟨fun _ _ _=>⟨rfl,rfl,rfl⟩,fun _ _ _=>⟨rfl,rfl,rfl⟩⟩
theorem e84:zM.fn 84=some Tryz.f84:=by kernel_rfl
theorem e85:zM.fn 85=some Tryz.f85:=by kernel_rfl
theorem e86:zM.fn 86=some Tryz.f86:=by kernel_rfl
theorem t171:TQ0 171 false 1 [.nilFunc]:=kTQ0 (by kernel_rfl)
theorem e87:zM.fn 87=some Tryz.f87:=by kernel_rfl
theorem e88:zM.fn 88=some Tryz.f88:=by kernel_rfl
theorem e89:zM.fn 89=some Tryz.f89:=by kernel_rfl
theorem e90:zM.fn 90=some Tryz.f90:=by kernel_rfl
theorem e91:zM.fn 91=some Tryz.f91:=by kernel_rfl
theorem e92:zM.fn 92=some Tryz.f92:=by kernel_rfl
theorem t120:TQ0 120 false 1 [.nilFunc]:=kTQ0 (by kernel_rfl)
theorem e93:zM.fn 93=some Tryz.f93:=by kernel_rfl
theorem e94:zM.fn 94=some Tryz.f94:=by kernel_rfl
theorem e95:zM.fn 95=some Tryz.f95:=by kernel_rfl
theorem e96:zM.fn 96=some Tryz.f96:=by kernel_rfl
theorem e97:zM.fn 97=some Tryz.f97:=by kernel_rfl
theorem e98:zM.fn 98=some Tryz.f98:=by kernel_rfl
theorem e99:zM.fn 99=some Tryz.f99:=by kernel_rfl
theorem e100:zM.fn 100=some Tryz.f100:=by kernel_rfl
theorem e101:zM.fn 101=some Tryz.f101:=by kernel_rfl
theorem e102:zM.fn 102=some Tryz.f102:=by kernel_rfl
theorem e103:zM.fn 103=some Tryz.f103:=by kernel_rfl
theorem e104:zM.fn 104=some Tryz.f104:=by kernel_rfl
theorem e105:zM.fn 105=some Tryz.f105:=by kernel_rfl
theorem e106:zM.fn 106=some Tryz.f106:=by kernel_rfl
theorem e107:zM.fn 107=some Tryz.f107:=by kernel_rfl
theorem e108:zM.fn 108=some Tryz.f108:=by kernel_rfl
theorem e109:zM.fn 109=some Tryz.f109:=by kernel_rfl
theorem e110:zM.fn 110=some Tryz.f110:=by kernel_rfl
theorem e111:zM.fn 111=some Tryz.f111:=by kernel_rfl
theorem t220:TQ0 220 false 1 [.nilFunc]:=kTQ0 (by kernel_rfl)
theorem t260:TQ0 260 false 1 [.nilFunc]:=kTQ0 (by kernel_rfl)
theorem e112:zM.fn 112=some Tryz.f112:=by kernel_rfl
theorem e113:zM.fn 113=some Tryz.f113:=by kernel_rfl
theorem e114:zM.fn 114=some Tryz.f114:=by kernel_rfl
theorem e115:zM.fn 115=some Tryz.f115:=by kernel_rfl
theorem t323:TQ3 323 true 2 [.slice none 0 0,.map none] [(0,1),(1,1)]:=kTQ3 (by kernel_rfl)
theorem r323:TR1 323 0 1:=⟨fun _ _ _=>⟨rfl,rfl⟩,fun _ _=>⟨rfl,rfl⟩⟩
theorem t325:TQ3 325 true 3 [.slice none 0 0,.map none,.int .i64 0] [(0,2),(2,1)]:=kTQ3 (by kernel_rfl)
theorem r325:TR9 325 0 2:=⟨fun _ _ _=>⟨rfl,rfl⟩,fun _ _ _=>⟨rfl,rfl⟩⟩
theorem e116:zM.fn 116=some Tryz.f116:=by kernel_rfl
theorem e117:zM.fn 117=some Tryz.f117:=by kernel_rfl
theorem e118:zM.fn 118=some Tryz.f118:=by kernel_rfl
theorem t199:TQ0 199 false 1 [.nilFunc]:=kTQ0 (by kernel_rfl)
theorem e119:zM.fn 119=some Tryz.f119:=by kernel_rfl
theorem e120:zM.fn 120=some Tryz.f120:=by kernel_rfl
theorem e121:zM.fn 121=some Tryz.f121:=by kernel_rfl
theorem e122:zM.fn 122=some Tryz.f122:=by kernel_rfl
theorem e123:zM.fn 123=some Tryz.f123:=by kernel_rfl
theorem e124:zM.fn 124=some Tryz.f124:=by kernel_rfl
theorem e125:zM.fn 125=some Tryz.f125:=by kernel_rfl
theorem e126:zM.fn 126=some Tryz.f126:=by kernel_rfl
theorem t271:TQ0 271 false 1 [.nilFunc]:=kTQ0 (by kernel_rfl)
theorem e127:zM.fn 127=some Tryz.f127:=by kernel_rfl
theorem e128:zM.fn 128=some Tryz.f128:=by kernel_rfl
theorem e129:zM.fn 129=some Tryz.f129:=by kernel_rfl
theorem e130:zM.fn 130=some Tryz.f130:=by kernel_rfl
theorem e131:zM.fn 131=some Tryz.f131:=by kernel_rfl
theorem e132:zM.fn 132=some Tryz.f132:=by kernel_rfl
theorem e133:zM.fn 133=some Tryz.f133:=by kernel_rfl
theorem e134:zM.fn 134=some Tryz.f134:=by kernel_rfl
theorem e135:zM.fn 135=some Tryz.f135:=by kernel_rfl
theorem t281:TQ0 281 false 1 [.nilFunc]:=kTQ0 (by kernel_rfl)
theorem e136:zM.fn 136=some Tryz.f136:=by kernel_rfl
theorem e137:zM.fn 137=some Tryz.f137:=by kernel_rfl
theorem e138:zM.fn 138=some Tryz.f138:=by kernel_rfl
theorem e139:zM.fn 139=some Tryz.f139:=by kernel_rfl
theorem e140:zM.fn 140=some Tryz.f140:=by kernel_rfl
theorem t221:TQ0 221 false 1 [.nilFunc]:=kTQ0 (by kernel_rfl)
theorem e141:zM.fn 141=some Tryz.f141:=by kernel_rfl
theorem e142:zM.fn 142=some Tryz.f142:=by kernel_rfl
theorem e143:zM.fn 143=some Tryz.f143:=by kernel_rfl
theorem e144:zM.fn 144=some Tryz.f144:=by kernel_rfl
theorem e145:zM.fn 145=some Tryz.f145:=by kernel_rfl
theorem e146:zM.fn 146=some Tryz.f146:=by kernel_rfl
theorem e147:zM.fn 147=some Tryz.f147:=by kernel_rfl
theorem e148:zM.fn 148=some Tryz.f148:=by kernel_rfl
theorem e149:zM.fn 149=some Tryz.f149:=by kernel_rfl
theorem e150:zM.fn 150=some Tryz.f150:=by kernel_rfl
theorem e151:zM.fn 151=some Tryz.f151:=by kernel_rfl
theorem e152:zM.fn 152=some Tryz.f152:=by kernel_rfl
theorem e153:zM.fn 153=some Tryz.f153:=by kernel_rfl
theorem e154:zM.fn 154=some Tryz.f154:=by kernel_rfl
theorem e155:zM.fn 155=some Tryz.f155:=by kernel_rfl
theorem e156:zM.fn 156=some Tryz.f156:=by kernel_rfl
theorem e161:zM.fn 161=some Tryz.f161:=by kernel_rfl
theorem t235:TQ3 235 true 1 [.pointer none] [(0,1)]:=kTQ3 (by kernel_rfl)
theorem r235:TR2 235 0:=⟨fun _ _ _=>rfl,fun _=>rfl⟩
theorem e163:zM.fn 163=some Tryz.f163:=by kernel_rfl
theorem t287:TQ0 287 false 1 [.nilFunc]:=kTQ0 (by kernel_rfl)
theorem t289:TQ0 289 false 1 [.nilFunc]:=kTQ0 (by kernel_rfl)
theorem e289E:fu zM 289 8 1 [.nilFunc]:=⟨⟨_,rfl,by kernel_rfl,by kernel_rfl⟩,t289.2.2.1,rfl⟩
theorem t291:TQ6 291 (.slice 289) false 1 [.slice none 0 0]:=kTQ6 (by kernel_rfl)
theorem t293:TQ3 293 true 6 [.int .i64 0,.int .i64 0,.int .i64 0,.int .i64 0,.int .i64 0,.int .i64 0] [(0,1),(1,1),(2,1),(3,1),(4,1),(5,1)]:=kTQ3 (by kernel_rfl)
theorem r293:TR10 293 0 1 2 3 4 5:=⟨fun _ _ _=>⟨rfl,rfl,rfl,rfl,rfl,rfl⟩,fun _ _ _ _ _ _=>⟨rfl,rfl,rfl,rfl,rfl,rfl⟩⟩
theorem e293E:fu zM 293 48 6 [.int .i64 0,.int .i64 0,.int .i64 0,.int .i64 0,.int .i64 0,.int .i64 0]:=⟨⟨_,rfl,by kernel_rfl,by kernel_rfl⟩,t293.2.2.1,rfl⟩
theorem e164:zM.fn 164=some Tryz.f164:=by kernel_rfl
theorem e166:zM.fn 166=some Tryz.f166:=by kernel_rfl
theorem e167:zM.fn 167=some Tryz.f167:=by kernel_rfl
theorem e168:zM.fn 168=some Tryz.f168:=by kernel_rfl
theorem e169:zM.fn 169=some Tryz.f169:=by kernel_rfl
theorem e170:zM.fn 170=some Tryz.f170:=by kernel_rfl
theorem e171:zM.fn 171=some Tryz.f171:=by kernel_rfl
theorem e172:zM.fn 172=some Tryz.f172:=by kernel_rfl
theorem t101:TQ3 101 true 4 [.int .i64 0,.int .i64 0,.slice none 0 0,.slice none 0 0] [(0,1),(1,1),(2,1),(3,1)]:=kTQ3 (by kernel_rfl)
theorem r101:TR0 101 0 1 2 3:=⟨fun _ _ _=>⟨rfl,rfl,rfl,rfl⟩,fun _ _ _ _=>⟨rfl,rfl,rfl,rfl⟩⟩
theorem t307:TQ4 307 (.pointer 310) false 1 [.pointer none]:=kTQ4 (by kernel_rfl)
theorem t310:TQ3 310 true 5 [.pointer none,.slice none 0 0,.slice none 0 0,.slice none 0 0,.map none] [(0,1),(1,3),(4,1)]:=kTQ3 (by kernel_rfl)
theorem r310:TR11 310 0 1 4:=⟨fun _ _ _=>⟨rfl,rfl,rfl⟩,fun _ _ _ _ _=>⟨rfl,rfl,rfl⟩⟩
theorem t312:TQ0 312 false 1 [.nilFunc]:=kTQ0 (by kernel_rfl)
theorem e173:zM.fn 173=some Tryz.f173:=by kernel_rfl
theorem e174:zM.fn 174=some Tryz.f174:=by kernel_rfl
theorem e175:zM.fn 175=some Tryz.f175:=by kernel_rfl
theorem e176:zM.fn 176=some Tryz.f176:=by kernel_rfl
theorem e177:zM.fn 177=some Tryz.f177:=by kernel_rfl
theorem e178:zM.fn 178=some Tryz.f178:=by kernel_rfl
theorem e179:zM.fn 179=some Tryz.f179:=by kernel_rfl
theorem e180:zM.fn 180=some Tryz.f180:=by kernel_rfl
theorem t253:TQ0 253 false 1 [.nilFunc]:=kTQ0 (by kernel_rfl)
theorem e181:zM.fn 181=some Tryz.f181:=by kernel_rfl
theorem e182:zM.fn 182=some Tryz.f182:=by kernel_rfl
theorem e183:zM.fn 183=some Tryz.f183:=by kernel_rfl
theorem e184:zM.fn 184=some Tryz.f184:=by kernel_rfl
theorem e185:zM.fn 185=some Tryz.f185:=by kernel_rfl
theorem e186:zM.fn 186=some Tryz.f186:=by kernel_rfl
theorem e187:zM.fn 187=some Tryz.f187:=by kernel_rfl
theorem e188:zM.fn 188=some Tryz.f188:=by kernel_rfl
theorem e189:zM.fn 189=some Tryz.f189:=by kernel_rfl
theorem e190:zM.fn 190=some Tryz.f190:=by kernel_rfl
theorem t320:TQ0 320 false 1 [.nilFunc]:=kTQ0 (by kernel_rfl)
theorem e191:zM.fn 191=some Tryz.f191:=by kernel_rfl
theorem e192:zM.fn 192=some Tryz.f192:=by kernel_rfl
theorem e193:zM.fn 193=some Tryz.f193:=by kernel_rfl
theorem e194:zM.fn 194=some Tryz.f194:=by kernel_rfl
theorem t321:TQ6 321 (.slice 330) false 1 [.slice none 0 0]:=kTQ6 (by kernel_rfl)
theorem t330:TQ3 330 true 2 [.int .i64 0,.int .i64 0] [(0,1),(1,1)]:=kTQ3 (by kernel_rfl)
theorem r330:TR1 330 0 1:=⟨fun _ _ _=>⟨rfl,rfl⟩,fun _ _=>⟨rfl,rfl⟩⟩
theorem e330E:fu zM 330 16 2 [.int .i64 0,.int .i64 0]:=⟨⟨_,rfl,by kernel_rfl,by kernel_rfl⟩,t330.2.2.1,rfl⟩
theorem e195:zM.fn 195=some Tryz.f195:=by kernel_rfl
theorem t326:TQ1 326 (.int .u64) false 1 [.int .u64 0]:=kTQ1 (by kernel_rfl)
theorem e196:zM.fn 196=some Tryz.f196:=by kernel_rfl
theorem e197:zM.fn 197=some Tryz.f197:=by kernel_rfl
theorem e198:zM.fn 198=some Tryz.f198:=by kernel_rfl
theorem e199:zM.fn 199=some Tryz.f199:=by kernel_rfl
theorem e200:zM.fn 200=some Tryz.f200:=by kernel_rfl
theorem e201:zM.fn 201=some Tryz.f201:=by kernel_rfl
theorem e202:zM.fn 202=some Tryz.f202:=by kernel_rfl
theorem e203:zM.fn 203=some Tryz.f203:=by kernel_rfl
theorem e204:zM.fn 204=some Tryz.f204:=by kernel_rfl
theorem e205:zM.fn 205=some Tryz.f205:=by kernel_rfl
theorem e206:zM.fn 206=some Tryz.f206:=by kernel_rfl
theorem e207:zM.fn 207=some Tryz.f207:=by kernel_rfl
theorem e208:zM.fn 208=some Tryz.f208:=by kernel_rfl
theorem e209:zM.fn 209=some Tryz.f209:=by kernel_rfl
theorem e210:zM.fn 210=some Tryz.f210:=by kernel_rfl
theorem e211:zM.fn 211=some Tryz.f211:=by kernel_rfl
theorem e212:zM.fn 212=some Tryz.f212:=by kernel_rfl
theorem e213:zM.fn 213=some Tryz.f213:=by kernel_rfl
theorem e214:zM.fn 214=some Tryz.f214:=by kernel_rfl
theorem t283:TQ0 283 false 1 [.nilFunc]:=kTQ0 (by kernel_rfl)
theorem e215:zM.fn 215=some Tryz.f215:=by kernel_rfl
theorem e216:zM.fn 216=some Tryz.f216:=by kernel_rfl
theorem e217:zM.fn 217=some Tryz.f217:=by kernel_rfl
theorem e218:zM.fn 218=some Tryz.f218:=by kernel_rfl
theorem e220:zM.fn 220=some Tryz.f220:=by kernel_rfl
theorem e221:zM.fn 221=some Tryz.f221:=by kernel_rfl
theorem t335:TQ6 335 (.slice 293) false 1 [.slice none 0 0]:=kTQ6 (by kernel_rfl)
theorem e222:zM.fn 222=some Tryz.f222:=by kernel_rfl
theorem e223:zM.fn 223=some Tryz.f223:=by kernel_rfl
theorem e224:zM.fn 224=some Tryz.f224:=by kernel_rfl
theorem e225:zM.fn 225=some Tryz.f225:=by kernel_rfl
theorem t286:TQ0 286 false 1 [.nilFunc]:=kTQ0 (by kernel_rfl)
theorem e226:zM.fn 226=some Tryz.f226:=by kernel_rfl
theorem e227:zM.fn 227=some Tryz.f227:=by kernel_rfl
theorem e228:zM.fn 228=some Tryz.f228:=by kernel_rfl
theorem e229:zM.fn 229=some Tryz.f229:=by kernel_rfl
theorem e234:zM.fn 234=some Tryz.f234:=by kernel_rfl
theorem e235:zM.fn 235=some Tryz.f235:=by kernel_rfl
theorem t311:TQ0 311 false 1 [.nilFunc]:=kTQ0 (by kernel_rfl)
theorem e236:zM.fn 236=some Tryz.f236:=by kernel_rfl
theorem e237:zM.fn 237=some Tryz.f237:=by kernel_rfl
theorem e238:zM.fn 238=some Tryz.f238:=by kernel_rfl
theorem e239:zM.fn 239=some Tryz.f239:=by kernel_rfl
theorem e240:zM.fn 240=some Tryz.f240:=by kernel_rfl
theorem e241:zM.fn 241=some Tryz.f241:=by kernel_rfl
theorem e242:zM.fn 242=some Tryz.f242:=by kernel_rfl
theorem e243:zM.fn 243=some Tryz.f243:=by kernel_rfl
theorem e244:zM.fn 244=some Tryz.f244:=by kernel_rfl
theorem e245:zM.fn 245=some Tryz.f245:=by kernel_rfl
theorem e246:zM.fn 246=some Tryz.f246:=by kernel_rfl
theorem e247:zM.fn 247=some Tryz.f247:=by kernel_rfl
theorem e248:zM.fn 248=some Tryz.f248:=by kernel_rfl
theorem e249:zM.fn 249=some Tryz.f249:=by kernel_rfl
theorem t362:TQ4 362 (.pointer 323) false 1 [.pointer none]:=kTQ4 (by kernel_rfl)
theorem e250:zM.fn 250=some Tryz.f250:=by kernel_rfl
theorem e251:zM.fn 251=some Tryz.f251:=by kernel_rfl
theorem e252:zM.fn 252=some Tryz.f252:=by kernel_rfl
theorem e253:zM.fn 253=some Tryz.f253:=by kernel_rfl
theorem e254:zM.fn 254=some Tryz.f254:=by kernel_rfl
theorem e255:zM.fn 255=some Tryz.f255:=by kernel_rfl
theorem e256:zM.fn 256=some Tryz.f256:=by kernel_rfl
theorem e257:zM.fn 257=some Tryz.f257:=by kernel_rfl
theorem t336:TQ0 336 false 1 [.nilFunc]:=kTQ0 (by kernel_rfl)
theorem e258:zM.fn 258=some Tryz.f258:=by kernel_rfl
theorem e259:zM.fn 259=some Tryz.f259:=by kernel_rfl
theorem t351:TQ0 351 false 1 [.nilFunc]:=kTQ0 (by kernel_rfl)
theorem e263:zM.fn 263=some Tryz.f263:=by kernel_rfl
theorem e264:zM.fn 264=some Tryz.f264:=by kernel_rfl
theorem e265:zM.fn 265=some Tryz.f265:=by kernel_rfl
theorem e266:zM.fn 266=some Tryz.f266:=by kernel_rfl
theorem e267:zM.fn 267=some Tryz.f267:=by kernel_rfl
theorem e268:zM.fn 268=some Tryz.f268:=by kernel_rfl
theorem e269:zM.fn 269=some Tryz.f269:=by kernel_rfl
theorem e272:zM.fn 272=some Tryz.f272:=by kernel_rfl
theorem e273:zM.fn 273=some Tryz.f273:=by kernel_rfl
theorem e274:zM.fn 274=some Tryz.f274:=by kernel_rfl
theorem e275:zM.fn 275=some Tryz.f275:=by kernel_rfl
theorem e276:zM.fn 276=some Tryz.f276:=by kernel_rfl
theorem e277:zM.fn 277=some Tryz.f277:=by kernel_rfl
theorem e278:zM.fn 278=some Tryz.f278:=by kernel_rfl
theorem e279:zM.fn 279=some Tryz.f279:=by kernel_rfl
theorem e280:zM.fn 280=some Tryz.f280:=by kernel_rfl
theorem e282:zM.fn 282=some Tryz.f282:=by kernel_rfl
theorem e283:zM.fn 283=some Tryz.f283:=by kernel_rfl
theorem e284:zM.fn 284=some Tryz.f284:=by kernel_rfl
theorem e285:zM.fn 285=some Tryz.f285:=by kernel_rfl
theorem e287:zM.fn 287=some Tryz.f287:=by kernel_rfl
end Tryz
set_option maxRecDepth 100000
def FA0:=aj t1<|aj t2<|aj t3<|aj t4<|aj t5<|aj t6<|aj t41<|aj t192<|aj t32<|aj t79<|aj t168<|aj r168<|aj t7<|aj r7<|aj t52<|aj t98<|aj t126<|aj r126<|aj t127<|aj t20<|aj t40<|aj t43<|aj r43<|aj t44<|aj t122<|aj r122<|aj t143<|aj r143<|aj t28<|aj t31<|aj t33<|aj t34<|aj t36<|aj r36<|aj t124<|aj t8<|aj r8<|aj t9<|aj t10<|aj t11<|aj t12<|aj t13<|aj r13<|aj t14<|aj r14<|aj t15<|aj t16<|aj t17<|aj t18<|aj r18<|aj t19<|aj r19<|aj t21<|aj t22<|aj t23<|aj t24<|aj t25<|aj r25<|aj t26<|aj r26<|aj t27<|aj t48<|aj r48<|aj t55<|aj t57<|aj r57<|aj t63<|aj t90<|aj t92<|aj r92<|aj t135<|aj r135<|aj t177<|aj r177<|aj t182<|aj t252<|aj r252<|aj t302<|aj t357<|aj t367<|aj r367<|aj t368<|aj t370<|aj t372<|aj t373<|aj t374<|aj t375<|aj t377<|aj r377<|aj t96<|aj r96<|aj t100<|aj t102<|aj r102<|aj t39<|aj r39<|aj t188<|aj r188<|aj t257<|aj t199<|aj t200<|aj t203<|aj t171<|aj t185<|aj t230<|aj t261<|aj t321<|aj t323<|aj r323<|aj t325<|aj r325<|aj t330<|aj r330<|aj t206<|aj t207<|aj t208<|aj t210<|aj r210<|aj t271<|aj t212<|aj t213<|aj t272<|aj t274<|aj r274<|aj t281<|aj t183<|aj t220<|aj t260<|aj t132<|aj t283<|aj t326<|aj t311<|aj t312<|aj t351<|aj t245<|aj r245<|aj t307<|aj t310<|aj r310<|aj t101<|aj r101<|aj t131<|aj t253<|aj t362<|aj t29<|aj t30<|aj t35<|aj r35<|aj t37<|aj t38<|aj r38<|aj t42<|aj r42<|aj t46<|aj t47<|aj r47<|aj t71<|aj t73<|aj r73<|aj t75<|aj t87<|aj t195<|aj t264<|aj r264<|aj t110<|aj t112<|aj r112<|aj t113<|aj t114<|aj t221<|aj t117<|aj t118<|aj t286<|aj t287<|aj t293<|aj r293<|aj t335<|aj t336<|aj t241<|aj t155<|aj r155<|aj t157<|aj t159<|aj r159<|aj t120<|aj t235<|aj r235<|aj t289<|aj t291<|aj t163<|aj t164<|aj t166<|aj t172<|aj t320<|aj t174<|aj t104<|aj r104<|t204
def BZ:=aj BS<|aj LB<|FA0
set_option maxRecDepth 10000
theorem values(c:OZ h0){v:Value}(d:Fl v):Ret zM 257 [v] h0 fun r h'=>Gr h0 h'/\ ∃b,r=.func (.func 277) #[] #[ptrTo b]/\h0.n<=b/\h'.load b 0 1=some [v]:=by have S:=Si c;refine aa (n:=4) (rs:=[.tmp 2]) rfl Tryz.e257 rfl rfl rfl (lbt rfl) ?_;simp only [BZ,seval];refine ac (bJ (by assumption)) S ?_;clear S;intro h b S a;simp only [BZ,ab,seval];exact⟨S.gr,b,rfl,a,S.ld m0 rfl⟩
theorem wB(d:OZ h0){v:Value}{ps:List Pl}(y:h0.load b 0 1=some [v])(q:az h0 6 lM v ps)(r:ps.length<1000):
 Iter zM 277 [] [ptrTo b] h0 (fun c=>c=b\/aq v c) (ps.map fun p=>[.agg ⟨lM p⟩]):=by
 refine vr fun z J Z Y h F s k=>?_;refine enter (n:=16) (rs:=[]) rfl Tryz.e277 rfl rfl rfl (lbt rfl) ?_;have l:=s.load d y (.inl rfl);have f:=s.sl d q (fun b h=>.inr h);simp only [BZ,l,f.lenq,seval];refine aW (fun(i:Nat) g h=>i<=ps.length/\ ∃F,ItS h0 (fun c=>c=b\/aq v c) h F/\J i h F/\g 0=.func (.yield z) #[] #[]/\g 5=v/\g 6=.int .i64 ps.length/\g 7=.int .i64 i) (fun i=>ps.length-i) ?_ 0 _ _ ?_
 . intro i A g h ⟨hi,F,s,k,r0,r5,r6,r7⟩;by_cases hlt:i<ps.length
   . have f:=s.sl d q (fun b h=>.inr h);obtain⟨c,o,j,m⟩:=f.ix (kd:=.i64) encP_len hlt;have S:=Si s.ok;have w:an .i64 ((i:Int)+1)=((i+1:Nat):Int):=(by rw [wrap64]<;>omega);simp only [BZ,r5,r6,r7,aF,hlt,j,m,seval];refine ac aA S ?_;clear S;intro h B S t;simp only [BZ,lM,seval];refine aC (S.store (i:=0) rfl ?_ ?_ rfl rfl ?_ ono) ?_
     . exact(by exact Tryz.t293.2.1)
     . exact(by intro x e;cases e)
     . exact lbt rfl
     clear S;rintro h ⟨S,C⟩;clear C;simp only [LC,ae,lay,Xb,Xc,seval]at S;simp only [BZ,r0,S.lds (b:=B) (o:=0) (n:=6) m0 (lbt rfl),seval];refine dg Y (s.gr S.gr) (Y.gr _ _ _ _ k S.gr) (i:=i) (by simp [hlt,lM]) ?_ ?_ ?_
     . intro u D a E _ _;simp only [BZ,r7,w,seval];exact A (i+1) _ _ (by omega) ⟨by omega,D,E,a,by simp [aB,r0,r5,r6]⟩
     . intro u a _;simp only [BZ,seval];exact ie rfl ⟨rfl,.inr (.inl ⟨_,rfl,a⟩)⟩
     . intro v u a;simp only [BZ];exact eH (cd ⟨rfl,.inr (.inr ⟨_,rfl,a⟩)⟩)
   . simp only [BZ,r6,r7,aF,hlt,seval];have:i=ps.length:=(by omega);subst this;exact cy (cd ⟨rfl,_,rfl,rfl,.inl ⟨_,F,rfl,by simpa using k⟩⟩)
 . exact⟨by omega,F,s,k,by simp [aB,dh]⟩
def pI(f g:Nat)(v:Value)(h':Hp):Prop:= ∃d a b,∃(e:List Pl) (D:Nat->Prop),v=.func (.func d) a b/\Iter zM d a.toList b.toList h' D (e.map fun p=>[.agg ⟨lM p⟩])/\(∀p∈e,p.lo<=p.n/\p.n<p.hi)/\ ∀c,D c->c<f\/g<=c
theorem one_ok(k:OZ h0){c n a d:Int}(l:a<=n)(m:n<d):
 Ret zM 222 [.int .i64 c,.int .i64 n,.int .i64 a,.int .i64 d] h0 fun v h'=>Gr h0 h'/\pI 0 h0.n v h':=by
 have S:=Si k;refine aa (n:=16) (rs:=[.tmp 8]) rfl Tryz.e222 rfl rfl rfl (lbt rfl) ?_;simp only [BZ,seval];refine ac (ce (by exact Tryz.t335.1) (by exact Tryz.e293E) (by decide) (by rfl)) S ?_;clear S;intro h b S f;simp only [LC,bH,cg,ae,Xh,Xf,Xg,Xm,seval]at S;simp only [BZ,seval];have q:=S.fr.n;refine step_ret (values S.ok aU) ?_;intro v h ⟨g,b2,e,n2,l2⟩;replace S:=S.call g;clear g;subst e;simp only [BZ,ab,seval];have r:az h 6 lM (.slice (some ⟨b,0,none⟩) 1 1) [⟨0,0,c,n,a,d⟩]:=.inr ⟨b,0,none,1,rfl,XD _,S.lds (b:=b) (o:=0) (n:=1*6) m0 (lbt rfl)⟩;exact⟨S.gr,_,#[],#[ptrTo b2],_,_,rfl,wB S.ok l2 r (by simp),by intro p j;simp at j;subst j;exact⟨l,m⟩,fun c i=>by rcases i with rfl|i;exact .inr (by omega);cases i;exact .inr f⟩
theorem shapes_ok(t:OZ h0){a:Gra}(d:kQ a){k m:Value}(r:dQ h0 k l m a):
 Ret zM 224 [jh a k l m] h0 fun v h'=>Gr h0 h'/\pI 0 h0.n v h':=by
 have S:=Si t;have z:=d.n1;have A:=d.n2;have w:an .i64 ((a.nodes:Int)+1)=((a.nodes+1:Nat):Int):=by rw [wrap64]<;>omega
 refine aa (n:=22) (rs:=[.tmp 2]) rfl Tryz.e224 rfl rfl rfl (lbt rfl) ?_;simp only [BZ,jh,seval];refine ac (aV (by intro x e;cases e)) S ?_;clear S;intro h b S u;simp only [ae]at S;simp only [BZ,r.X.lenq,r.Y.lenq,w,S.ld (b:=b) (o:=0) m0 rfl,S.ld (b:=b) (o:=1) m0 rfl,S.ld (b:=b) (o:=2) m0 rfl,seval];refine ac (ce (by exact Tryz.t335.1) (by exact Tryz.e293E) (by decide) (by rfl)) S ?_;clear S;intro h i S f;simp only [LC,bH,cg,ae,Xh,Xf,Xg,Xm,seval]at S;simp only [BZ,seval];have q:=S.fr.n;refine step_ret (values S.ok aU) ?_;intro v h ⟨g,b2,e,n2',l2⟩;replace S:=S.call g;clear g;subst e;simp only [BZ,ab,seval];have y:az h 6 lM (.slice (some ⟨i,0,none⟩) 2 2) [⟨0,0,6,a.X.length,a.nodes,(a.nodes+1:Nat)⟩,⟨0,1,6,a.Y.length,a.nodes,(a.nodes+1:Nat)⟩]:=.inr ⟨i,0,none,2,rfl,XD _,S.lds (b:=i) (o:=0) (n:=2*6) m0 (lbt rfl)⟩;refine⟨S.gr,_,#[],#[ptrTo b2],_,_,rfl,wB S.ok l2 y (by simp),?_,fun c j=>by rcases j with rfl|j;exact .inr (by omega);cases j;exact .inr f⟩;intro p s;have:=d.lX;have:=d.lY;simp at s;rcases s with rfl|rfl<;>(simp only [];omega)
theorem nodes_ok(i:OZ h0){c g:Value}:Ret zM 226 [.agg ⟨[g,c,d,f]⟩] h0 fun v h'=>Gr h0 h'/\ ∃b,v=.func (.func 258) #[] #[ptrTo b]/\h0.n<=b/\Row h' b [g,c,d,f] 1:=by have S:=Si i;refine aa (n:=4) (rs:=[.tmp 2]) rfl Tryz.e226 rfl rfl rfl (lbt rfl) ?_;simp only [BZ,seval];refine ac (aV (by intro x e;cases e)) S ?_;clear S;intro h b S a;simp only [ae]at S;simp only [BZ,ab,seval];exact⟨S.gr,b,rfl,a,S.row m0⟩
theorem arcs_ok(i:OZ h0){c g:Value}:Ret zM 229 [.agg ⟨[g,c,d,f]⟩] h0 fun v h'=>Gr h0 h'/\ ∃b,v=.func (.func 259) #[] #[ptrTo b]/\h0.n<=b/\Row h' b [g,c,d,f] 1:=by have S:=Si i;refine aa (n:=4) (rs:=[.tmp 2]) rfl Tryz.e229 rfl rfl rfl (lbt rfl) ?_;simp only [BZ,seval];refine ac (aV (by intro x e;cases e)) S ?_;clear S;intro h b S a;simp only [ae]at S;simp only [BZ,ab,seval];exact⟨S.gr,b,rfl,a,S.row m0⟩
def plN(X Y:List Int):List Pl:=(zO X.length).flatMap fun(i:Nat)=>[⟨i,0,7,X.getD i 0,-2147483648,2147483648⟩,⟨i,1,7,Y.getD i 0,-2147483648,2147483648⟩]
theorem plN_len(X Y:List Int):(plN X Y).length=2*X.length:=by unfold plN;rw [XA];simp [XB];omega
theorem plN_at(X Y:List Int)(c:i<X.length):(plN X Y)[2*i]? =some ⟨i,0,7,X.getD i 0,-2147483648,2147483648⟩/\(plN X Y)[2*i+1]? =some ⟨i,1,7,Y.getD i 0,-2147483648,2147483648⟩:=by
 unfold plN;have b: ∀(n j:Nat) (f:Nat->Pl) (k:Nat->Pl),j<n->((zO n).flatMap fun i=>[f i,k i])[2*j]? =some (f j)/\((zO n).flatMap fun i=>[f i,k i])[2*j+1]? =some (k j):=by
  intro n
  induction n with
  |zero=>intro j f k d;omega| succ n e=>
    intro j f k d;have a:((zO n).flatMap fun i=>[f i,k i]).length=2*n:=(by rw [XA];simp [XB];omega);rw [XI,Xn];by_cases h:j<n
    . rw [Xj (by omega),Xj (by omega)];exact e j f k h
    . have:j=n:=(by omega);subst this;rw [Xi (by omega),Xi (by omega),a];simp
 exact b _ _ _ _ c
theorem D6(d:OZ h0){m K L:Value}{X Y:List Int}(t:Row h0 b [L,l,m,K] 1)(G:az h0 1 (encI .i64) l X)(M:az h0 1 (encI .i64) m Y)(hl:X.length=Y.length)(H:X.length<1000):
 Iter zM 258 [] [ptrTo b] h0 (fun c=>c=b\/aq l c\/aq m c) ((plN X Y).map fun p=>[.agg ⟨lM p⟩]):=by
 refine vr fun N J Z u h F s r=>?_;refine enter (n:=38) (rs:=[]) rfl Tryz.e258 rfl rfl rfl (lbt rfl) ?_;have x:=s.load d (t.load1 (o:=1) rfl) (.inl rfl);simp only [BZ,x,G.lenq,seval];refine aW (fun(i:Nat) g h=>i<=X.length/\ ∃F,ItS h0 (fun c=>c=b\/aq l c\/aq m c) h F/\J (2*i) h F/\g 0=.func (.yield N) #[] #[]/\g 1=ptrTo b/\g 8=.int .i64 X.length/\g 9=.int .i64 i) (fun i=>X.length-i) ?_ 0 _ _ ?_
 . intro i O g h ⟨hi,F,s,r,r0,r1,r8,r9⟩;by_cases hlt:i<X.length
   . have y:=s.sl d G (fun b h=>.inr (.inl h));have z:=s.sl d M (fun b h=>.inr (.inr h));have x:=s.load d (t.load1 (o:=1) rfl) (.inl rfl);have P:=s.load d (t.load1 (o:=2) rfl) (.inl rfl);obtain⟨c,o,j,A⟩:=y.ix (kd:=.i64) (bO _) hlt;obtain⟨c2,o2,f,k⟩:=z.ix (kd:=.i64) (bO _) (i:=i) (by omega);have S:=Si s.ok;have w:an .i64 ((i:Int)+1)=((i+1:Nat):Int):=(by rw [wrap64]<;>omega);simp only [BZ,r8,r9,aF,hlt,seval];refine ao (av rfl) (q:=1024) (ps:=[]) (by kernel_rfl) ?_;simp only [BZ,cls,r1,x,P,j,f,A,k,encI,seval];refine df (ce (by exact Tryz.t23.1) (by exact Tryz.e2E) (by decide) (by rfl)) S ?_;clear S;intro h e S B C;simp only [LC,bH,cg,ae,Xh,Xf,Xg,Xm,seval]at S;simp only [BZ,cls,Xk,seval];have Q:an .i64 1=1:=rfl;have T:an .i64 2=2:=rfl;have I:=plN_at X Y hlt;rw [cD];simp only [BZ,Xk,r0,S.ld (b:=e) (o:=0) m0 rfl,S.ld (b:=e) (o:=1) m0 rfl,seval];refine dg u (s.gr S.gr) (u.gr _ _ _ _ r S.gr) (i:=2*i) (by rw [Xp,I.1];simp [lM,Xd,hlt]) ?_ ?_ ?_
     . intro U F2 a V D _;have W:e∉F:=fun hm=>(by have:=s.lt _ hm;omega);have R:Row U e _ 1:=(S.row m0).of_get (D.get _ ((S.row m0).lt S.ok) W);have R1:=R.load1 (o:=1) rfl;have ad:True:=trivial;simp only [BZ,Q,seval];rw [cD];simp only [BZ,Xk,r0,R1,seval];refine dg u V a (i:=2*i+1) (by rw [Xp,I.2];simp [lM,Xd,show i<Y.length by omega]) ?_ ?_ ?_
       . intro h3 F3 a s3 _ _;simp only [BZ,T,seval];rw [cD];simp only [BZ,r9,w,seval];exact O (i+1) _ _ (by omega) ⟨by omega,F3,s3,a,by simp [aB,r0,r1,r8]⟩
       . intro E a _;simp only [BZ,seval];exact ie rfl ⟨rfl,.inr (.inl ⟨_,rfl,a⟩)⟩
       . intro v E a;simp only [BZ];exact eH (cd ⟨rfl,.inr (.inr ⟨_,rfl,a⟩)⟩)
     . intro E a _;simp only [BZ,seval];exact ie rfl ⟨rfl,.inr (.inl ⟨_,rfl,a⟩)⟩
     . intro v E a;simp only [BZ];exact eH (cd ⟨rfl,.inr (.inr ⟨_,rfl,a⟩)⟩)
   . simp only [BZ,r8,r9,aF,hlt,seval];have:i=X.length:=(by omega);subst this;exact cy (cd ⟨rfl,_,rfl,rfl,.inl ⟨_,F,rfl,by simpa [plN_len]using r⟩⟩)
 . exact⟨by omega,F,s,r,by simp [aB,dh,ah]⟩
def plA(n:Nat)(A:List Arc):List Pl:=(zO A.length).flatMap fun(i:Nat)=>[⟨i,0,9,(A.getD i default).s,0,n⟩,⟨i,1,9,(A.getD i default).t,0,n⟩,⟨i,2,10,(A.getD i default).w,0,2147483648⟩]
theorem flat3_at{b:Type}(f k l:Nat->b): ∀(n j:Nat),j<n->((zO n).flatMap fun i=>[f i,k i,l i])[3*j]? =some (f j)/\((zO n).flatMap fun i=>[f i,k i,l i])[3*j+1]? =some (k j)/\((zO n).flatMap fun i=>[f i,k i,l i])[3*j+2]? =some (l j):=by
 intro n
 induction n with
 |zero=>intro j c;omega| succ n d=>
   intro j c;have a:((zO n).flatMap fun i=>[f i,k i,l i]).length=3*n:=(by rw [XA];simp [XB];omega);rw [XI,Xn];by_cases h:j<n
   . rw [Xj (by omega),Xj (by omega),Xj (by omega)];exact d j h
   . have:j=n:=(by omega);subst this;rw [Xi (by omega),Xi (by omega),Xi (by omega),a];simp
theorem plA_len(n:Nat)(A:List Arc):(plA n A).length=3*A.length:=by unfold plA;rw [XA];simp [XB];omega
theorem arcs_iter  (d:OZ h0) {W X m:Value}  {A:List Arc} (I:Row h0 b [.int .i64 n,W,X,m] 1) (K:az h0 3 c7 m A) (L:A.length<1000):
 Iter zM 259 [] [ptrTo b] h0 (fun c=>c=b\/aq m c) ((plA n A).map fun p=>[.agg ⟨lM p⟩]):=by
 refine vr fun Y J Z j h F s t=>?_;refine enter (n:=44) (rs:=[]) rfl Tryz.e259 rfl rfl rfl (lbt rfl) ?_;have l0:=s.load d (I.load1 (o:=0) rfl) (.inl rfl);have l3:=s.load d (I.load1 (o:=3) rfl) (.inl rfl);simp only [BZ,l0,l3,K.lenq,seval];refine aW (fun(i:Nat) k h=>i<=A.length/\ ∃F,ItS h0 (fun c=>c=b\/aq m c) h F/\J (3*i) h F/\k 0=.func (.yield Y) #[] #[]/\k 3=.int .i64 n/\k 11=m/\k 12=.int .i64 A.length/\k 13=.int .i64 i) (fun i=>A.length-i) ?_ 0 _ _ ?_
 . intro i ih k h ⟨hi,F,s,t,r0,r3,r11,r12,r13⟩;by_cases hlt:i<A.length
   . have u:=s.sl d K (fun b h=>.inr h);obtain⟨c,o,q,y⟩:=u.ix (kd:=.i64) jC hlt;have S:=Si s.ok;have w:an .i64 ((i:Int)+1)=((i+1:Nat):Int):=(by rw [wrap64]<;>omega);have w1:an .i64 1=1:=rfl;have w2:an .i64 2=2:=rfl;have w3:an .i64 3=3:=rfl;have z:=flat3_at (fun(i:Nat)=>(⟨i,0,9,(A.getD i default).s,0,n⟩:Pl)) (fun(i:Nat)=>⟨i,1,9,(A.getD i default).t,0,n⟩) (fun(i:Nat)=>⟨i,2,10,(A.getD i default).w,0,2147483648⟩) A.length i hlt;have B:A.getD i default=A[i]:=(by simp [Xd,hlt]);simp only [BZ,r11,r12,r13,aF,hlt,q,y,seval];refine ac aA S ?_;clear S;intro h C S M;simp only [BZ,c7,seval];refine aC (S.store (i:=0) rfl ?_ ?_ rfl rfl ?_ ono) ?_
     . exact(by exact Tryz.t135.2.1)
     . exact(by intro x e;cases e)
     . exact lbt rfl
     clear S;rintro h ⟨S,f⟩;clear f;simp only [LC,ae,lay,Xb,Xc,seval]at S;simp only [BZ,r3,S.ld (b:=C) (o:=0) m0 rfl,S.ld (b:=C) (o:=1) m0 rfl,S.ld (b:=C) (o:=2) m0 rfl,seval];refine ac (ce (by exact Tryz.t335.1) (by exact Tryz.e293E) (by decide) (by rfl)) S ?_;clear S;intro h g S N;simp only [LC,bH,cg,ae,Xh,Xf,Xg,Xm,seval]at S;simp only [BZ,Xk,seval];have O:g∉F:=fun l=>(by have:=s.lt _ l;omega);have R:Row h g _ 1:=S.row m0;have ad:=R.lt S.ok;rw [cD];simp only [BZ,Xk,S.lds (b:=g) (o:=0) (n:=6) m0 (lbt rfl),seval];refine ac aA S ?_;clear S;intro h b7 S P;simp only [BZ,Xu,Xq,Xv,seval];refine aC (S.store (i:=0) rfl ?_ ?_ rfl rfl ?_ ono) ?_
     . exact(by exact Tryz.t293.2.1)
     . exact(by intro x e;cases e)
     . exact lbt rfl
     clear S;rintro h ⟨S,f⟩;clear f;simp only [LC,ae,lay,Xb,Xc,seval]at S;simp only [BZ,r0,S.lds (b:=b7) (o:=0) (n:=6) m0 (lbt rfl),seval];have R:Row h g _ 1:=S.row m1;refine dg j (s.gr S.gr) (j.gr _ _ _ _ t S.gr) (i:=3*i) (by rw [Xp,show(plA n A)[3*i]? =_ from z.1,B];simp [lM]) ?_ ?_ ?_
     . intro h2 F2 a Q D E;have R0:=R;replace R:Row h2 g _ 1:=R.of_get (D.get _ (R.lt S.ok) O);have G:g∉F2:=fun l=>by
        rcases E _ l with l|l
        . exact O l
        . have:=R0.lt S.ok;omega
       have S:=Si Q.ok;simp only [BZ,w1,seval];rw [cD];simp only [BZ,Xk,R.load (o:=6) (n:=6) (lbt rfl),seval];refine ac aA S ?_;clear S;intro h b8 S T;simp only [BZ,XQ,Xu,Xq,Xv,seval];refine aC (S.store (i:=0) rfl ?_ ?_ rfl rfl ?_ ono) ?_
       . exact(by exact Tryz.t293.2.1)
       . exact(by intro x e;cases e)
       . exact lbt rfl
       clear S;rintro h ⟨S,f⟩;clear f;simp only [LC,ae,lay,Xb,Xc,seval]at S;simp only [BZ,r0,S.lds (b:=b8) (o:=0) (n:=6) m0 (lbt rfl),seval];replace R:=R.gr S.gr;refine dg j (Q.gr S.gr) (j.gr _ _ _ _ a S.gr) (i:=3*i+1) (by rw [Xp,show(plA n A)[3*i+1]? =_ from z.2.1,B];simp [lM]) ?_ ?_ ?_
       . intro h3 F3 a U H af;replace R:Row h3 g _ 1:=R.of_get (H.get _ (R.lt S.ok) G);have S:=Si U.ok;simp only [BZ,w2,seval];rw [cD];simp only [BZ,Xk,R.load (o:=12) (n:=6) (lbt rfl),seval];refine ac aA S ?_;clear S;intro h b9 S V;simp only [BZ,XQ,Xu,Xq,Xv,seval];refine aC (S.store (i:=0) rfl ?_ ?_ rfl rfl ?_ ono) ?_
         . exact(by exact Tryz.t293.2.1)
         . exact(by intro x e;cases e)
         . exact lbt rfl
         clear S;rintro h ⟨S,f⟩;clear f;simp only [LC,ae,lay,Xb,Xc,seval]at S;simp only [BZ,r0,S.lds (b:=b9) (o:=0) (n:=6) m0 (lbt rfl),seval];refine dg j (U.gr S.gr) (j.gr _ _ _ _ a S.gr) (i:=3*i+2) (by rw [Xp,show(plA n A)[3*i+2]? =_ from z.2.2,B];simp [lM]) ?_ ?_ ?_
         . intro h4 F4 a s4 ai ak;simp only [BZ,w3,seval];rw [cD];simp only [BZ,r13,w,seval];exact ih (i+1) _ _ (by omega) ⟨by omega,F4,s4,a,by simp [aB,r0,r3,r11,r12]⟩
         . intro r a _;simp only [BZ,seval];exact ie rfl ⟨rfl,.inr (.inl ⟨_,rfl,a⟩)⟩
         . intro v r a;simp only [BZ];exact eH (cd ⟨rfl,.inr (.inr ⟨_,rfl,a⟩)⟩)
       . intro r a _;simp only [BZ,seval];exact ie rfl ⟨rfl,.inr (.inl ⟨_,rfl,a⟩)⟩
       . intro v r a;simp only [BZ];exact eH (cd ⟨rfl,.inr (.inr ⟨_,rfl,a⟩)⟩)
     . intro r a _;simp only [BZ,seval];exact ie rfl ⟨rfl,.inr (.inl ⟨_,rfl,a⟩)⟩
     . intro v r a;simp only [BZ];exact eH (cd ⟨rfl,.inr (.inr ⟨_,rfl,a⟩)⟩)
   . simp only [BZ,r12,r13,aF,hlt,seval];have:i=A.length:=(by omega);subst this;exact cy (cd ⟨rfl,_,rfl,rfl,.inl ⟨_,F,rfl,by simpa [plA_len]using t⟩⟩)
 . exact⟨by omega,F,s,t,by simp [aB,dh]⟩
theorem look1_ok(d:OZ h0){c:Gra}(a:kQ c){i:Value}(j:Row h0 b [.int .i64 c.nodes,e,f,i] 1):Ret zM 221 [ptrTo b] h0 fun v h'=>Gr h0 h'/\pI 0 h0.n v h':=by have S:=Si d;have k:=a.n1;have l:=a.n2;refine aa (n:=5) (rs:=[.tmp 1]) rfl Tryz.e221 rfl rfl rfl (lbt rfl) ?_;simp only [BZ,j.load1 (o:=0) rfl,seval];refine step_ret (one_ok S.ok (by omega) (by omega)) ?_;intro v h ⟨g,t⟩;replace S:=S.call g;clear g;simp only [BZ,ab,seval];exact⟨S.gr,t⟩
theorem look2_ok(i:OZ h0){a:Gra}(c:kQ a)(j:dQ h0 d e f a)(k:Row h0 b [.int .i64 a.nodes,d,e,f] 1):Ret zM 223 [ptrTo b] h0 fun v h'=>Gr h0 h'/\pI 0 h0.n v h':=by have S:=Si i;refine aa (n:=4) (rs:=[.tmp 1]) rfl Tryz.e223 rfl rfl rfl (lbt rfl) ?_;simp only [BZ,k.load (o:=0) (n:=4) (lbt rfl),seval];refine step_ret (shapes_ok S.ok c j) ?_;intro v h ⟨g,t⟩;replace S:=S.call g;clear g;simp only [BZ,ab,seval];exact⟨S.gr,t⟩
theorem look4_ok(i:OZ h0){a:Gra}(c:kQ a)(j:dQ h0 d e f a)(k:Row h0 b [.int .i64 a.nodes,d,e,f] 1):Ret zM 227 [ptrTo b] h0 fun v h'=>Gr h0 h'/\pI 0 h0.n v h':=by have S:=Si i;have l:=c.many;refine aa (n:=6) (rs:=[.tmp 1]) rfl Tryz.e227 rfl rfl rfl (lbt rfl) ?_;simp only [BZ,k.load1 (o:=3) rfl,j.A.lenq,seval];refine step_ret (one_ok S.ok (by omega) (by omega)) ?_;intro v h ⟨g,t⟩;replace S:=S.call g;clear g;simp only [BZ,ab,seval];exact⟨S.gr,t⟩
theorem look3_ok(u:OZ h0){d:Gra}(a:kQ d){k:Value}(s:dQ h0 k l r d)(w: ∀c,aq k c->c<m)(x: ∀c,aq l c->c<m)(y:Row h0 b [.int .i64 d.nodes,k,l,r] 1):Ret zM 225 [ptrTo b] h0 fun v h'=>Gr h0 h'/\pI m h0.n v h':=by
 have S:=Si u;have z:=a.n2;have A:=a.lX;have B:=a.lY;refine aa (n:=4) (rs:=[.tmp 1]) rfl Tryz.e225 rfl rfl rfl (lbt rfl) ?_;simp only [BZ,y.load (o:=0) (n:=4) (lbt rfl),seval];refine step_ret (nodes_ok S.ok) ?_;intro v h ⟨g,b2,e,q2,R⟩;replace S:=S.call g;clear g;subst e;simp only [BZ,ab,seval];refine⟨S.gr,_,#[],#[ptrTo b2],_,_,rfl,D6 S.ok R (s.X.gr S.gr) (s.Y.gr S.gr) (by omega) (by omega),fun p q=>?_,fun c f=>?_⟩
 . unfold plN at q;simp only [List.mem_flatMap,XK,List.mem_cons,List.not_mem_nil,or_false]at q;obtain⟨i,t,rfl|rfl⟩:=q
   . have:=a.cX d.X[i] (Xx t);simp only [Xd,Xo t,XH];omega
   . have j:i<d.Y.length:=(by omega);have:=a.cY d.Y[i] (Xx j);simp only [Xd,Xo j,XH];omega
 . rcases f with rfl|f|f
   . exact .inr q2
   . exact .inl (w c f)
   . exact .inl (x c f)
theorem look5_ok(s:OZ h0){d:Gra}(a:kQ d){m:Value}(t:dQ h0 l m f d){q:Nat}(u: ∀c,aq f c->c<q)(w:Row h0 b [.int .i64 d.nodes,l,m,f] 1):Ret zM 228 [ptrTo b] h0 fun v h'=>Gr h0 h'/\pI q h0.n v h':=by
 have S:=Si s;have x:=a.many;refine aa (n:=4) (rs:=[.tmp 1]) rfl Tryz.e228 rfl rfl rfl (lbt rfl) ?_;simp only [BZ,w.load (o:=0) (n:=4) (lbt rfl),seval];refine step_ret (arcs_ok S.ok) ?_;intro v h ⟨g,b2,e,q2,R⟩;replace S:=S.call g;clear g;subst e;simp only [BZ,ab,seval];refine⟨S.gr,_,#[],#[ptrTo b2],_,_,rfl,arcs_iter S.ok R (t.A.gr S.gr) (by omega),fun p j=>?_,fun c k=>?_⟩
 . unfold plA at j;simp only [List.mem_flatMap,XK,List.mem_cons,List.not_mem_nil,or_false]at j;obtain⟨i,r,h⟩:=j;have:=a.arcs d.arcs[i] (Xx r);simp only [Xd,Xo r,XH]at h;rcases h with rfl|rfl|rfl<;>(simp only [];omega)
 . rcases k with rfl|k
   . exact .inr q2
   . exact .inl (u c k)
theorem look_ok  (u:OZ h0) {N:Gra} (k:kQ N) {Y Z va:Value} (z:dQ h0 Y Z va N):Ret zM 164 [jh N Y Z va] h0 fun v h'=>Gr h0 h':=by
 have S:=Si u;refine aa (n:=44) (rs:=[]) rfl Tryz.e164 rfl rfl rfl (lbt rfl) ?_;simp only [BZ,jh,seval];refine ac (aV (by intro x e;cases e)) S ?_;clear S;intro h b S ak;simp only [ae]at S;simp only [BZ,seval];refine ac (ce (by exact Tryz.t291.1) (by exact Tryz.e289E) (by decide) (by rfl)) S ?_;clear S;intro h bs S ad;simp only [LC,bH,cg,ae,Xh,Xf,Xg,Xm,seval]at S;simp only [BZ,Xk,seval];have O: ∀i,i<5-> ∃g a c,[Value.func (.func 221) #[] #[.pointer (some ⟨b,0,none⟩)],.func (.func 223) #[] #[.pointer (some ⟨b,0,none⟩)],.func (.func 225) #[] #[.pointer (some ⟨b,0,none⟩)],.func (.func 227) #[] #[.pointer (some ⟨b,0,none⟩)],.func (.func 228) #[] #[.pointer (some ⟨b,0,none⟩)]][i]? =some (.func (.func g) a c)/\
  ∀h',Gr h h'->Ret zM g (a.toList++c.toList) h' fun v j=>Gr h' j/\pI h0.n h'.n v j:=by
  intro i hi;have r:=S.row (b:=b) m1;have q:=z.gr S.gr;have P: ∀h' v j,Gr h' j/\pI 0 h'.n v j->Gr h' j/\pI h0.n h'.n v j:=by rintro h' v j ⟨a,Q,a1,R,H,D,b1,b2,b3,A⟩;exact⟨a,Q,a1,R,H,D,b1,b2,b3,fun c s=>(A c s).elim (fun h=>by omega) .inr⟩
  match i,hi with
  |0,_=>exact⟨_,_,_,rfl,fun h' g=>tP (look1_ok g.ok k (r.gr g)) (P h')⟩
  |1,_=>exact⟨_,_,_,rfl,fun h' g=>tP (look2_ok g.ok k (q.gr g) (r.gr g)) (P h')⟩
  |2,_=>exact⟨_,_,_,rfl,fun h' g=>look3_ok g.ok k (q.gr g) (fun c s=>z.X.lt u s) (fun c s=>z.Y.lt u s) (r.gr g)⟩
  |3,_=>exact⟨_,_,_,rfl,fun h' g=>tP (look4_ok g.ok k (q.gr g) (r.gr g)) (P h')⟩
  |4,_=>exact⟨_,_,_,rfl,fun h' g=>look5_ok g.ok k (q.gr g) (fun c s=>z.A.lt u s) (r.gr g)⟩
 have Rs:=S.row (b:=bs) m0;have g0:=S.gr;have B:=S.ok;clear S z u;revert O Rs;generalize [Value.func (.func 221) #[] #[.pointer (some ⟨b,0,none⟩)],.func (.func 223) #[] #[.pointer (some ⟨b,0,none⟩)],.func (.func 225) #[] #[.pointer (some ⟨b,0,none⟩)],.func (.func 227) #[] #[.pointer (some ⟨b,0,none⟩)],.func (.func 228) #[] #[.pointer (some ⟨b,0,none⟩)]]=fs;intro O Rs;rename Hp=>C;have al:=Rs.lt B;have ax:=g0.n;have S:=Si B;refine rY (fun(i:Nat) I d h'=>i<=5/\ ∃f:List Nat,d=f.map rZ/\St NoM C h' (dJ f) []/\I 10=.slice (some ⟨bs,0,none⟩) 5 5/\I 11=.int .i64 5/\I 12=.int .i64 i) (fun i=>5-i) ?_ 0 _ _ _ ?_
 . clear S;intro i ih I d h ⟨hi,f,J,S,r10,r11,r12⟩;have w:an .i64 ((i:Int)+1)=((i+1:Nat):Int):=(by rw [wrap64]<;>omega);by_cases hlt:i<5
   . obtain⟨g,a,c,T,r⟩:=O i hlt;have Rl:=(Rs.gr S.gr).load1 T;have l:(i:Int)<5:=(by omega);simp only [BZ,r10,r11,r12,l,hlt,Rl,seval];refine ac aA S ?_;clear S;intro h b2 S af;simp only [BZ,seval];refine aC (aE S (i:=0) rfl ?_ ?_ ?_ ono) ?_
     . exact(by simp only [FA0])
     . exact(by exact aZ)
     . exact Xe (lbt rfl)
     clear S;rintro h ⟨S,U⟩;clear U;simp only [LC,ae,lay,Xb,Xc,seval]at S;simp only [BZ,seval];replace S:=S.drop1;have kl: ∀b∈keys (dJ f) [],b<h.n:=fun b m=>S.key_lt m;refine step_ret (r _ S.gr) ?_;intro v h ⟨g,Q,R,post,H,D,e,it,hps,hD⟩;replace S:=S.call g;clear g;subst e;simp only [BZ];refine iz S (g:=Q) (a:=R) (b:=post) (by simp [bF,aB]) rfl rfl ?_;intro K E G t ay aL g2;obtain⟨X,hX,t⟩: ∃X:fS,X=_/\St NoM C K ((G,.loop X)::(E,.dfr)::dJ f) []:=⟨_,rfl,t⟩;have hJ:Yld zM G (fun _ h' F=>St NoM C h' ((G,.loop X)::(E,.dfr)::dJ f) []/\F=keys ((G,.loop X)::(E,.dfr)::dJ f) []) (fun _ _=>False) (H.map fun p=>[.agg ⟨lM p⟩]):=by
      refine⟨?_,?_,fun _ _ h=>h.elim,?_⟩
      . rintro i h F ⟨S,rfl⟩;exact⟨S.ok,fun b m=>S.key_lt m⟩
      . rintro i h F h' ⟨S,rfl⟩ g;exact⟨S.call g,rfl⟩
      . rintro i x h F hx ⟨S,rfl⟩;obtain⟨p,hp,rfl⟩: ∃p∈H,x=[.agg ⟨lM p⟩]:=(by rw [Xp,Option.map_eq_some_iff]at hx;obtain⟨p,C,K⟩:=hx;exact⟨p,Xy C,K.symm⟩);obtain⟨p1,p2⟩:=hps p hp;have V: ¬p.n<p.lo:=(by omega);have W: ¬p.hi<=p.n:=(by omega);subst hX;refine iw (S.get m0) (by rw [Tryz.e164];rfl) rfl ?_;have S0:=S;replace S:=S.base;simp only [BZ];refine ac aA S ?_;clear S;intro h A S ai;simp only [BZ,lM,seval];refine aC (S.store (i:=0) rfl ?_ ?_ rfl rfl ?_ ono) ?_
        . exact(by exact Tryz.t293.2.1)
        . exact(by intro x e;cases e)
        . exact lbt rfl
        clear S;rintro h ⟨S,U⟩;clear U;simp only [LC,ae,lay,Xb,Xc,seval]at S;simp only [BZ];refine gC S (i:=1) rfl rfl rfl rfl rfl ?_;clear S;intro h S;simp only [BZ,V,W,S.ld (b:=A) (o:=3) m0 rfl,S.ld (b:=A) (o:=4) m0 rfl,S.ld (b:=A) (o:=5) m0 rfl,seval];refine dV S (i:=1) rfl ?_;clear S;intro h S;exact .inl ⟨rfl,_,⟨S0.rebase S.drop1,rfl⟩,S.fr,S.drop1.key_new⟩
     refine cK (BJ it hJ (h:=K) (F:=keys ((G,.loop _)::(E,.dfr)::dJ f) []) g2.fr (fun b m hlt=>?_) ⟨t,rfl⟩) fun o rc h' y=>jx y ?_
     . intro J;have M:=t.key_own m;rcases hD b J with hh|hh
       . rcases M with M|M
         . omega
         . exact M
       . rcases List.mem_cons.1 m with rfl|m
         . omega
         . rcases List.mem_cons.1 m with rfl|m
           . omega
           . have:=kl b m;omega
     . rintro F ⟨S,rfl⟩;subst hX;refine⟨_,S.get m0,Nat.zero_ne_one,?_⟩;replace S:=S.dead;show Run _ _ _ _ _ _ _ _;simp only [BZ,r12,w,seval];exact ih (i+1) _ _ _ (by omega) ⟨by omega,E::f,by rw [J];rfl,S,by simp [aB,r10,r11]⟩
   . have l: ¬(i:Int)<5:=(by omega);simp only [BZ,r11,r12,l,seval];subst J;refine cy (ij f h (L:=[]) (by rw [XE];exact S) fun h' t=>⟨rfl,_,rfl,g0.trans t.gr⟩)
 . exact⟨by omega,[],rfl,S,by simp [aB]⟩
theorem az.form{d:Type}{enc:d->List Value}{v:Value}{xs:List d}(s:az h k enc v xs): ∃a n c,v=.slice a n c:=by rcases s with⟨rfl,_⟩|⟨b,o,s,c,rfl,_⟩<;>exact⟨_,_,_,rfl⟩
section
variable{M:Nat->Prop}{h0 h:Hp}{E:Env}{L:List (Nat×Ob)}{G:List GL}
def WrK{a:Type}(h:Hp)(k:Nat)(enc:a->List Value)(w:Value)(l:List a):Prop:=l≠ []-> ∃b,w=.slice (some ⟨b,0,some k⟩) l.length l.length/\Row h b (l.flatMap enc) 1
theorem WrK.mo{a:Type}{M:Nat->Prop}{enc:a->List Value}{w:Value}{l:List a}(r:WrK h k enc w l)(g:Mo M h h')(c: ∀b,aq w b-> ¬M b):WrK h' k enc w l:=
 fun d=>by obtain⟨b,e,k⟩:=r d;exact⟨b,e,g.has (o:=.row _ 1) k (c b (by rw [e];rfl))⟩
theorem St.cloneW{l:Type}{enc:l->List Value}{ys:List l}(S:St M h0 h L G){g e:TypeId}{md:Nat}{z:List Value}{x:Value}(m:E.und t=some (.slice e))(o:fu E e a k z)(p:0<a)
 (q:ez E g=some false) (r:az h k enc x ys) (d: ∀x,(enc x).length=k) (s:0<k) (f:(ys.length*k)*(a+1)<=70368744177664) {ts:List TypeId}
 (u:Row h b [] md):
 ∃h' v',dK E h (t::g::ts) (.slice (some ⟨b,0,none⟩) 0 0) x=some (h',v')/\St M h0 h' L G/\Gr h h'/\az h' k enc v' ys/\(∀c,aq v' c->c=b\/h.n<=c)/\WrK h' k enc v' ys:=by
 obtain⟨h',v',v,A,B,C,D⟩:=S.cloneSl (enc:=enc) (xs:=[]) m o p q r d s (by simpa using f) (ts:=ts) (b:=b) (md:=md) (by simpa using u);refine⟨h',v',v,A,B,by simpa using C,D,fun i=>?_⟩;obtain⟨F,H,w,I⟩:=S.clone m o p q r.src (cB d ys).symm (n:=0) (by simp) s (by rw [cB d];simpa using f) (ts:=ts) u;have j:dK E h (t::g::ts) (.slice (some ⟨b,0,none⟩) 0 0) x=some (h',v'):=v;rw [j]at w;cases w;rcases I with⟨J,_⟩|⟨y,K,T⟩
 . exact absurd (List.length_eq_zero_iff.1 J) i
 . refine⟨y,by rw [K,Xf],?_⟩;have:=T.row (b:=y) m0;simpa using this
end
theorem check1_ok(a:OZ h0):ey zM 163 [ptrTo b] none h0 fun o rc h'=>(∃v,o=.ret v)/\rc=none/\Gr h0 h':=by have S:=Si a;refine enter (n:=17) (rs:=[]) rfl Tryz.e163 rfl rfl rfl (lbt rfl) ?_;simp only [BZ,seval];exact cy (cd ⟨rfl,_,rfl,⟨_,rfl⟩,rfl,S.gr⟩)
theorem check_ok(p:OZ h0){c:Gra}(d:kQ c){j k:Value}(q:dQ h0 f j k c):aO zM 77 [jh c f j k] h0 .nilIface:=by
 have S:=Si p;refine aa (n:=6) (rs:=[.cell 2 75]) rfl Tryz.e77 rfl rfl rfl (lbt rfl) ?_;simp only [BZ,jh,seval];refine ac (aV (by intro x e;cases e)) S ?_;clear S;intro h b S r;simp only [ae]at S;simp only [BZ];refine ac aA S ?_;clear S;intro h s S m;simp only [BZ,S.lds (b:=b) (o:=0) (n:=4) m1 (lbt rfl),seval];refine step_ret (look_ok S.ok d (q.gr S.gr)) ?_;intro v h g;replace S:=S.call g;clear g;simp only [BZ,seval];refine aC (aE S (i:=0) rfl ?_ ?_ ?_ ono) ?_
 . exact(by simp only [FA0])
 . exact(by exact fl_nili)
 . exact Xe (lbt rfl)
 clear S;rintro h ⟨S,t⟩;clear t;simp only [LC,ae,lay,Xb,Xc,seval]at S;simp only [BZ];refine dq (un_fn (cK (check1_ok S.ok) fun o u w ⟨a,b,g⟩=>⟨a,b,cd ⟨rfl,?_⟩⟩));replace S:=S.call g;have l:=S.ld (b:=s) (o:=0) m0 rfl;exact⟨_,vp (by decide) (by simp only [aD,ah,seval];exact kW Tryz.t75.1 l),rfl,S.gr⟩
theorem sW(f:OZ h0){v:Value}(i:az h0 1 (encI .i64) v xs)(p:xs.length<1000000):Ret zM 153 [v] h0 fun r h'=>Gr h0 h'/\az h' 1 (encI .i64) r xs/\ ∀c,aq r c->h0.n<=c:=by
 have S:=Si f;rcases i with⟨rfl,rfl⟩|⟨b,o,s,c,rfl,j,k⟩
 . refine aa (n:=8) (rs:=[.tmp 2]) rfl Tryz.e153 rfl rfl rfl (lbt rfl) ?_;simp only [BZ,ab,seval];exact⟨S.gr,.inl ⟨rfl,rfl⟩,fun c a=>a.elim⟩
 . refine aa (n:=8) (rs:=[.tmp 2]) rfl Tryz.e153 rfl rfl rfl (lbt rfl) ?_;simp only [BZ,seval];refine ac (ce (by exact Tryz.t23.1) (by exact Tryz.e2E) (by decide) (by rfl)) S ?_;clear S;intro h q S d;simp only [LC,bH,cg,ae,Xh,Xf,Xg,Xm,seval]at S;simp only [BZ,seval];refine dE (S.cloneSl (enc:=encI .i64) (xs:=[]) Tryz.t23.1 Tryz.e2E (by decide) Tryz.t23.2.2.2.2.2 (.inr ⟨b,o,s,c,rfl,j,S.old k (fun h=>h)⟩) (fun x=>rfl) (by decide) (by simp only [List.length_nil,Xf];omega) (S.row m0)) ?_;rintro h' v ⟨l,g,m,a⟩;simp only [BZ,ab,seval];refine⟨l.gr,by simpa using m,fun c h=>(a c h).elim (fun e=>by omega) (fun e=>Xl S.fr.n e)⟩
theorem C3(f:OZ h0){v:Value}{xs:List Arc}(i:az h0 3 (c7) v xs)(p:xs.length<1000000):Ret zM 154 [v] h0 fun r h'=>Gr h0 h'/\az h' 3 (c7) r xs/\(∀c,aq r c->h0.n<=c)/\WrK h' 3 c7 r xs:=by
 have S:=Si f;rcases i with⟨rfl,rfl⟩|⟨b,o,s,c,rfl,j,k⟩
 . refine aa (n:=8) (rs:=[.tmp 2]) rfl Tryz.e154 rfl rfl rfl (lbt rfl) ?_;simp only [BZ,ab,seval];exact⟨S.gr,.inl ⟨rfl,rfl⟩,fun c a=>a.elim,fun h=>absurd rfl h⟩
 . refine aa (n:=8) (rs:=[.tmp 2]) rfl Tryz.e154 rfl rfl rfl (lbt rfl) ?_;simp only [BZ,seval];refine ac (ce (by exact Tryz.t55.1) (by exact Tryz.e135E) (by decide) (by rfl)) S ?_;clear S;intro h q S d;simp only [LC,bH,cg,ae,Xh,Xf,Xg,Xm,seval]at S;simp only [BZ,seval];refine dE (S.cloneW (enc:=c7) (ys:=xs) Tryz.t55.1 Tryz.e135E (by decide) Tryz.t55.2.2.2.2.2 (.inr ⟨b,o,s,c,rfl,j,S.old k (fun h=>h)⟩) (fun x=>rfl) (by decide) (by omega) (S.row m0)) ?_;rintro h' v ⟨l,g,m,a,w⟩;simp only [BZ,ab,seval];exact⟨l.gr,m,fun c h=>(a c h).elim (fun e=>by omega) (fun e=>Xl S.fr.n e),w⟩
structure DrAt(h:Hp)(bd:Nat)(vB:Value)(xs:List Int)(a:Nat):Prop where
 sl:az h 1 (encI .u8) vB xs
 ne: ¬aq vB bd
 few:xs.length<1000000
 at_:a<100000
def drV(xs:List Int)(n a:Nat):Nat:=if h:xs.length=0 then 0 else(an .u8 (xs[a%xs.length]'(Nat.mod_lt _ (by omega))+an .u8 (an .i64 ((a:Int).tdiv (xs.length:Int))))%(n:Int)).toNat
theorem Cd(A:OZ h0){d:Nat}(m:Row h0 d [f,.int .i64 a] 1)(B:DrAt h0 d f xs a)(J:1<=n)(C:n<1000):
 Ret zM 75 [ptrTo d,.int .i64 n] h0 fun v h'=>Mo (· =d) h0 h'/\ ∃r w:Nat,v=.int .i64 r/\r<n/\w<=a+1/\Row h' d [f,.int .i64 w] 1/\r=drV xs n a:=by
 have S:=St.init1 A (o:=.row [f,.int .i64 a] 1) m;obtain⟨p,t,K,L⟩:=B;have M:=p.fl;have D:an .i64 ((a:Int)+1)=((a+1:Nat):Int):=by rw [wrap64]<;>omega
 have E:an .i64 (((a+1:Nat):Int)-1)=(a:Int):=by rw [wrap64]<;>omega
 have F: ¬(n:Int)<1:=by omega
 by_cases g:xs.length=0
 . have s:(xs.length:Int)=0:=(by omega);refine aa (n:=55) (rs:=[.tmp 4]) rfl Tryz.e75 rfl rfl rfl (lbt rfl) ?_;simp only [BZ,ab,p.lenq,s,S.ld (b:=d) (o:=0) m0 rfl,seval];exact⟨S.fr,0,a,rfl,by omega,by omega,S.row m0,by unfold drV;rw [dif_pos g]⟩
 . have s: ¬(xs.length:Int)=0:=(by omega);have j:a%xs.length<xs.length:=Nat.mod_lt _ (by omega);have G:(a:Int).tmod (xs.length:Int)=((a%xs.length:Nat):Int):=(by rw [Xz (by omega)];exact(Int.natCast_emod _ _).symm);refine aa (n:=55) (rs:=[.tmp 4]) rfl Tryz.e75 rfl rfl rfl (lbt rfl) ?_;simp only [BZ,p.lenq,s,F,D,S.ld (b:=d) (o:=0) m0 rfl,S.ld (b:=d) (o:=1) m0 rfl,seval];refine aC (aE S (i:=0) rfl ?_ ?_ ?_ ono) ?_
   . exact(by simp only [FA0])
   . exact(by exact aZ)
   . exact Xe (lbt rfl)
   clear S;rintro h ⟨S,H⟩;clear H;simp only [LC,ae,lay,Xb,Xc,seval]at S;have k:az h 1 (encI .u8) f xs:=p.mo S.fr (fun b I e=>t (e▸I));obtain⟨c,o,l,u⟩:=k.ix (kd:=.i64) (bO _) j;have x:(xs.length:Int)≠0:=s;have y:(n:Int)≠0:=(by omega);simp only [BZ];refine ao (av rfl) (q:=0) (ps:=[]) (by kernel_rfl) ?_;simp only [BZ,jz,cP,ju,cls,ab,k.lenq,E,jL x,mL x,jL y,G,l,u,encI,S.ld (b:=d) (o:=0) m0 rfl,S.ld (b:=d) (o:=1) m0 rfl,seval];have m:(an .i64 (an .u8 (xs[a%xs.length]+an .u8 (an .i64 ((a:Int).tdiv (xs.length:Int)))))).tmod (n:Int)=((drV xs n a:Nat):Int)/\drV xs n a<n:=(by unfold drV;rw [dif_neg g];generalize xs[a%xs.length]+an .u8 (an .i64 ((a:Int).tdiv (xs.length:Int)))=z;have N:=wrap8 z;rw [wrap64 (by omega) (by omega),Xz (by omega)];have O:=Int.emod_nonneg (an .u8 z) y;have P:=Int.emod_lt_of_pos (an .u8 z) (show(0:Int)<n by omega);exact⟨by omega,by omega⟩);rw [m.1];exact⟨S.fr,_,a+1,rfl,m.2,XD _,S.row m0,rfl⟩
theorem jm(h:OZ h0)(i:Row h0 b [d,.int .i64 a] 1)(j:DrAt h0 b d xs a)(k:1<=n)(g:n<1000):
 Ret zM 75 [ptrTo b,.int .i64 n] h0 fun v h'=>Mo (· =b) h0 h'/\ ∃r c:Nat,v=.int .i64 r/\r<n/\c<=a+1/\Row h' b [d,.int .i64 c] 1:=
 (Cd h i j k g).mono fun v h' ⟨f,r,c,e,l,m,o,_⟩=>⟨f,r,c,e,l,m,o⟩
theorem DrAt.mo{h h':Hp}{c:Nat}{g:Value}{xs:List Int}{a i:Nat}(d:DrAt h c g xs a)(f:Mo (· =c) h h')(j:i<100000):DrAt h' c g xs i:=
 ⟨d.sl.mo f (fun b k e=>d.ne (e▸k)),d.ne,d.few,j⟩
theorem zU(x:OZ h0){d:Nat}(y:Row h0 d [e,.int .i64 a] 1)(s:DrAt h0 d e xs a)(C:a+2<100000):
 Ret zM 76 [ptrTo d] h0 fun v h'=>Mo (· =d) h0 h'/\ ∃r t:Nat,v=.int .i64 r/\r<=2147483647/\t<=a+2/\Row h' d [e,.int .i64 t] 1:=by
 have S:=St.init1 x (o:=.row [e,.int .i64 a] 1) y;refine aa (n:=24) (rs:=[.tmp 2]) rfl Tryz.e76 rfl rfl rfl (lbt rfl) ?_;simp only [BZ,seval];refine step_ret (jm (n:=12) S.ok (S.row m0) s (by omega) (by omega)) ?_;rintro v h ⟨f,r,u,rfl,z,A,B⟩;replace S:=S.call1 (i:=0) rfl f (o':=.row _ _) B;have c:DrAt h d e xs u:=s.mo f (by omega);simp only [LC]at S;by_cases p:(r:Int)<3
 . simp only [BZ,ab,p,seval];exact⟨S.fr,0,u,rfl,by omega,by omega,S.row m0⟩
 . by_cases q:(r:Int)<10
   . simp only [BZ,p,q,seval];refine step_ret (jm (n:=9) S.ok (S.row m0) c (by omega) (by omega)) ?_;rintro v h ⟨f,b,g,rfl,j,k,l⟩;replace S:=S.call1 (i:=0) rfl f (o':=.row _ _) l;simp only [LC]at S;have m:an .i64 (1+(b:Int))=((1+b:Nat):Int):=(by rw [wrap64]<;>omega);simp only [BZ,ab,m,seval];exact⟨S.fr,1+b,g,rfl,by omega,by omega,S.row m0⟩
   . by_cases w:(r:Int)<11
     . simp only [BZ,p,q,w,seval];refine step_ret (jm (n:=20) S.ok (S.row m0) c (by omega) (by omega)) ?_;rintro v h ⟨f,b,g,rfl,j,k,l⟩;replace S:=S.call1 (i:=0) rfl f (o':=.row _ _) l;simp only [LC]at S;have m:an .i64 (100*(b:Int))=((100*b:Nat):Int):=(by rw [wrap64]<;>omega);simp only [BZ,ab,m,seval];exact⟨S.fr,100*b,g,rfl,by omega,by omega,S.row m0⟩
     . simp only [BZ,p,q,w,seval];refine step_ret (jm (n:=2) S.ok (S.row m0) c (by omega) (by omega)) ?_;rintro v h ⟨f,b,g,rfl,j,k,l⟩;replace S:=S.call1 (i:=0) rfl f (o':=.row _ _) l;simp only [LC]at S;have m:an .i64 (2147483647-(b:Int))=((2147483647-b:Nat):Int):=(by rw [wrap64]<;>omega);simp only [BZ,ab,m,seval];exact⟨S.fr,2147483647-b,g,rfl,by omega,by omega,S.row m0⟩
def ints(l:List Int):List Value:=l.flatMap (encI .i64)
theorem cC(l:List Int):(ints l).length=l.length:=by unfold ints;rw [cB (k:=1) (fun _=>rfl)];omega
theorem iE(l m:List Int):ints (l++m)=ints l++ints m:=by unfold ints;rw [Xn]
theorem raw0_ok  (ok:OZ h0) {B:Nat} {V:Value}  (hr:Row h0 B [V,.int .i64 ((0:Nat):Int)] 1) (P:DrAt h0 B V xs 0):
 Ret zM 31 [ptrTo B] h0 fun v h'=>Mo (· =B) h0 h'/\ ∃γ vx vy va,v=jh γ vx vy va/\Good γ/\γ.nodes=1+drV xs 12 0/\dQ h' vx vy va γ/\ ∀c,(aq vx c\/aq vy c\/aq va c)->h0.n<=c:=by
 have S:=St.init1 ok (o:=.row [V,.int .i64 ((0:Nat):Int)] 1) hr;have bL:=hr.lt ok;refine aa (n:=117) (rs:=[.cell 2 57]) rfl Tryz.e31 rfl rfl rfl (lbt rfl) ?_;simp only [BZ];refine ac aA S ?_;clear S;intro h L S bx;simp only [BZ,seval];refine step_ret (Cd (n:=12) (a:=0) S.ok (S.row m1) (P.mo S.fr (by omega)) (by omega) (by omega)) ?_;rintro v h ⟨f,r,a0,rfl,bP,bT,R,b0⟩;replace S:=S.call1 (i:=1) rfl f (o':=.row _ _) R;simp only [LC]at S;have w1:an .i64 (1+(r:Int))=((1+r:Nat):Int):=by rw [wrap64]<;>omega
 simp only [BZ,w1,seval];refine ac aA S ?_;clear S;intro h s S bB;simp only [BZ,seval];refine aC (S.store (i:=0) rfl ?_ ?_ rfl rfl ?_ ono) ?_
 . exact(by exact Tryz.t7.2.1)
 . exact(by intro x e;cases e)
 . exact lbt rfl
 clear S;rintro h ⟨S,M⟩;clear M;simp only [LC,ae,lay,Xb,Xc,seval]at S;simp only [BZ];replace S:=((S.nilG (k:=3)).nilG (k:=1)).nilG (k:=1);generalize hN:1+r=N at S;refine aW (fun(i:Nat) g h=>i<=N/\ ∃(a:Nat) (D G:Value) (X Y:List Int),a<=1+2*i/\X.length=i/\Y.length=i/\(∀x∈X,-2147483648<=x/\x<=2147483647)/\(∀x∈Y,-2147483648<=x/\x<=2147483647)/\
  St (· =B) h0 h [(s,.row [.int .i64 N,D,G,.slice none 0 0] 1),(L,.row [.int .i64 0,.slice none 0 0,.slice none 0 0,.slice none 0 0] 1),(B,.row [V,.int .i64 a] 1)] [(D,1,ints X),(G,1,ints Y),(.slice none 0 0,3,[])]/\
  g 0=ptrTo B/\g 2=ptrTo L/\g 3=ptrTo s/\g 4=.int .i64 i) (fun i=>N-i) ?_ 0 _ _ ?_
 . clear S;intro i T g h ⟨hi,a,D,G,X,Y,ha,lX,lY,cX,cY,S,r,y,d,r4⟩;by_cases hlt:i<N
   . simp only [BZ,d,r4,aF,hlt,S.ld (b:=s) (o:=0) m0 rfl,seval];refine ao (av rfl) (q:=32) (ps:=[(1,3)]) (by kernel_rfl) ?_;simp only [BZ,cls,r,d,S.ld (b:=s) (o:=1) m0 rfl,seval];refine bU (jm (n:=9) (a:=a) S.ok (S.row m2) (P.mo S.fr (by omega)) (by omega) (by omega)) ?_;rintro v h ⟨f,r1,a1,rfl,b1,bi,R⟩;have hl:=S.leaves (c:=s) m0 f (by omega);replace S:=S.call1 (i:=2) rfl f (o':=.row _ _) R;simp only [LC]at S;have w9:an .i64 ((r1:Int)-3)=(r1:Int)-3:=(by rw [wrap64]<;>omega);simp only [BZ,cls,w9,seval];refine df (ce (by exact Tryz.t23.1) (by exact Tryz.e2E) (by decide) (by rfl)) S ?_;clear S;intro h W S J ad;simp only [LC,bH,cg,ae,Xh,Xf,Xg,Xm,seval]at S;simp only [BZ,cls,seval];refine mj (S.grow (j:=0) (m:=1) (new:=ints [(r1:Int)-3]) rfl Tryz.t23.1 Tryz.e2E (by decide) Tryz.t23.2.2.2.2.2 (by simp only [aK];rw [S.lds (b:=W) (o:=0) (n:=1*1) m0 (lbt rfl)];rfl) rfl (by decide) rfl (by rw [cC,cC];simp;omega)) ?_;clear S;rintro h ax S;simp only [LC]at S;replace S:=S.drop1;rw [<-iE]at S;have fX:Fl ax:=(S.gown _ m0).1.fl;simp only [BZ,cls,d,seval];refine cM (aE S (i:=0) rfl ?_ ?_ ?_ ono) ?_
     . exact(by simp only [FA0])
     . exact(by assumption)
     . exact Xe (lbt rfl)
     clear S;rintro h ⟨S,M⟩;clear M;simp only [LC,ae,lay,Xb,Xc,seval]at S;simp only [BZ,seval];refine⟨by simp only [aJ,aR,aH,aT,aI,ne_eq,not_false_eq_true,aY,bC,aQ,aN,bF,bW,aD,Xs,d,ah,ar hl,seval],?_⟩;refine ao (av rfl) (q:=16) (ps:=[(1,3)]) (by kernel_rfl) ?_;simp only [BZ,cls,r,d,S.ld (b:=s) (o:=2) m0 rfl,seval];clear f hl R;refine bU (jm (n:=7) (a:=a1) S.ok (S.row m2) (P.mo S.fr (by omega)) (by omega) (by omega)) ?_;rintro v h ⟨f,H,a2,rfl,bk,bl,R⟩;have hl:=S.leaves (c:=s) m0 f (by omega);replace S:=S.call1 (i:=2) rfl f (o':=.row _ _) R;simp only [LC]at S;simp only [BZ,cls,seval];refine df (ce (by exact Tryz.t23.1) (by exact Tryz.e2E) (by decide) (by rfl)) S ?_;clear S;intro h W S J ad;simp only [LC,bH,cg,ae,Xh,Xf,Xg,Xm,seval]at S;simp only [BZ,cls,seval];refine mj (S.grow (j:=1) (m:=1) (new:=ints [(H:Int)]) rfl Tryz.t23.1 Tryz.e2E (by decide) Tryz.t23.2.2.2.2.2 (by simp only [aK];rw [S.lds (b:=W) (o:=0) (n:=1*1) m0 (lbt rfl)];rfl) rfl (by decide) rfl (by rw [cC,cC];simp;omega)) ?_;clear S;rintro h ay S;simp only [LC]at S;replace S:=S.drop1;rw [<-iE]at S;have fY:Fl ay:=(S.gown _ m1).1.fl;simp only [BZ,cls,d,seval];refine cM (aE S (i:=0) rfl ?_ ?_ ?_ ono) ?_
     . exact(by simp only [FA0])
     . exact(by assumption)
     . exact Xe (lbt rfl)
     clear S;rintro h ⟨S,M⟩;clear M;simp only [LC,ae,lay,Xb,Xc,seval]at S;simp only [BZ,r4,seval];refine⟨by simp only [aJ,aR,aH,aT,aI,ne_eq,not_false_eq_true,aY,bC,aQ,aN,bF,bW,aD,Xs,d,ah,ar hl,seval],?_⟩;have w:an .i64 ((i:Int)+1)=((i+1:Nat):Int):=(by rw [wrap64]<;>omega);simp only [w];exact T (i+1) _ _ (by omega) ⟨by omega,a2,ax,ay,_,_,by omega,by simp [lX],by simp [lY],
      fun x F=>(List.mem_append.1 F).elim (cX x) (fun h=>by simp at h;omega),fun x F=>(List.mem_append.1 F).elim (cY x) (fun h=>by simp at h;omega),S,by simp [aB,r,ah,y,d]⟩
   . have bm : i=N:=(by omega);subst bm;simp only [BZ,r,d,r4,aF,hlt,S.ld (b:=s) (o:=0) m0 rfl,seval];refine step_ret (jm (n:=9) (a:=a) S.ok (S.row m2) (P.mo S.fr (by omega)) (by omega) (by omega)) ?_;rintro v h ⟨f,H,a1,rfl,bk,bi,R⟩;replace S:=S.call1 (i:=2) rfl f (o':=.row _ _) R;simp only [LC]at S;simp only [BZ,seval];refine s8 (fun g h=> ∃(X Y:List Int),X.length=i/\Y.length=i/\(∀x∈X,-2147483648<=x/\x<=2147483647)/\(∀x∈Y,-2147483648<=x/\x<=2147483647)/\
      St (· =B) h0 h [(s,.row [.int .i64 i,D,G,.slice none 0 0] 1),(L,.row [.int .i64 0,.slice none 0 0,.slice none 0 0,.slice none 0 0] 1),(B,.row [V,.int .i64 a1] 1)] [(D,1,ints X),(G,1,ints Y),(.slice none 0 0,3,[])]/\
      g 0=ptrTo B/\g 2=ptrTo L/\g 3=ptrTo s) ?_ ?_ ?_
     . intro _;obtain⟨bX,ix,aL⟩:=S.gset (E:=zM) (t:=2) (j:=0) (i:=0) (kd:=.i64) rfl (by rw [cC];omega) Tryz.t2.2.2.1;have bn:mQ (some 1) D (.int .i64 0)=_:=ix;simp only [BZ,d,bn,S.ld (b:=s) (o:=1) m0 rfl,seval];refine aC (aL _ aZ) ?_;clear S aL;intro h S;simp only [LC]at S;obtain⟨bY,iy,a8⟩:=S.gset (E:=zM) (t:=2) (j:=1) (i:=i-1) (kd:=.i64) rfl (by rw [cC];omega) Tryz.t2.2.2.1;have w1:an .i64 ((i:Int)-1)=((i-1:Nat):Int):=(by rw [wrap64]<;>omega);simp only [BZ,d,w1,iy,S.ld (b:=s) (o:=0) m0 rfl,S.ld (b:=s) (o:=2) m0 rfl,seval];refine aC (a8 _ aZ) ?_;clear S a8;intro h S;simp only [LC]at S;simp only [BZ];have af: ∀(l:List Int) (j:Nat) (z:Int),(ints l).set j (.int .i64 z)=ints (l.set j z):=by
        intro l
        induction l with
        |nil=>intro j z;rfl| cons x l T=>
          intro j z;cases j with
          |zero=>rfl|succ j=>show _::_=_::_;exact congrArg _ (T j z)
       rw [af,af]at S;refine dH ⟨_,_,by simp [lX],by simp [lY],fun x F=>?_,fun x F=>?_,S,by simp [aB,r,ah,y,d]⟩
       . rcases n8 F with rfl|⟨j,_,F⟩
         . omega
         . exact cX x (Xy F)
       . rcases n8 F with rfl|⟨j,_,F⟩
         . omega
         . exact cY x (Xy F)
     . intro _;simp only [BZ];exact dH ⟨X,Y,lX,lY,cX,cY,S,by simp [aB,r,ah,y,d]⟩
     . clear S r y d r4 lX lY cX cY X Y f R;rintro g h ⟨X,Y,lX,lY,cX,cY,S,r,y,d⟩;have w3:an .i64 (3*(i:Int))=((3*i:Nat):Int):=(by rw [wrap64]<;>omega);have w4:an .i64 (((3*i:Nat):Int)+1)=((3*i+1:Nat):Int):=(by rw [wrap64]<;>omega);simp only [BZ,r,d,w3,w4,S.ld (b:=s) (o:=0) m0 rfl,seval];refine step_ret (jm (n:=3*i+1) (a:=a1) S.ok (S.row m2) (P.mo S.fr (by omega)) (by omega) (by omega)) ?_;rintro v h ⟨f,C,a2,rfl,bo,bl,R⟩;replace S:=S.call1 (i:=2) rfl f (o':=.row _ _) R;simp only [LC]at S;simp only [BZ,r,seval];refine step_ret (jm (n:=3) (a:=a2) S.ok (S.row m2) (P.mo S.fr (by omega)) (by omega) (by omega)) ?_;rintro v h ⟨f,rr,a3,rfl,b4,b5,R⟩;replace S:=S.call1 (i:=2) rfl f (o':=.row _ _) R;simp only [LC]at S;simp only [BZ,seval];generalize decide ((0:Int)<(rr:Int))=ring;refine rx (fun g h=> ∃(a:Nat) (u:Value) (A:List Arc),a<=a3+2*i/\A.length<=i/\(∀x∈A,x.s<i/\x.t<i/\x.w<=2147483647)/\
        St (· =B) h0 h [(s,.row [.int .i64 i,D,G,u] 1),(L,.row [.int .i64 0,.slice none 0 0,.slice none 0 0,.slice none 0 0] 1),(B,.row [V,.int .i64 a] 1)] [(D,1,ints X),(G,1,ints Y),(u,3,A.flatMap c7)]/\
        g 0=ptrTo B/\g 2=ptrTo L/\g 3=ptrTo s/\g 5=.int .i64 C)
        (fun(j:Nat) g h=>j<=i/\ ∃(a:Nat) (u:Value) (A:List Arc),a<=a3+2*j/\A.length<=j/\(∀x∈A,x.s<i/\x.t<i/\x.w<=2147483647)/\
        St (· =B) h0 h [(s,.row [.int .i64 i,D,G,u] 1),(L,.row [.int .i64 0,.slice none 0 0,.slice none 0 0,.slice none 0 0] 1),(B,.row [V,.int .i64 a] 1)] [(D,1,ints X),(G,1,ints Y),(u,3,A.flatMap c7)]/\
        g 0=ptrTo B/\g 2=ptrTo L/\g 3=ptrTo s/\g 5=.int .i64 C/\g 6=.bool ring/\g 7=.int .i64 j) (fun j=>i-j) ?_ ?_ 0 ⟨by omega,a3,_,[],by omega,by simp,by simp,S,by simp [aB,r,ah,y,d]⟩
       . clear S r y d f R T;intro j T g h ⟨hj,a,u,A,ha,lA,O,S,r,y,d,H,r6,r7⟩;have K:(A.flatMap c7).length=A.length*3:=cB jC A;by_cases hlt:j<i/\ring=true
         . obtain⟨hlt,I⟩:=hlt;subst I;have w1:an .i64 ((j:Int)+1)=((j+1:Nat):Int):=(by rw [wrap64]<;>omega);have ci:(i:Int)≠0:=(by omega);have tm:((j+1:Nat):Int).tmod (i:Int)=(((j+1)%i:Nat):Int):=(by rw [Xz (by omega)];exact(Int.natCast_emod _ _).symm);simp only [BZ,d,r6,r7,aF,hlt,S.ld (b:=s) (o:=0) m0 rfl,seval];refine ao (av rfl) (q:=2048) (ps:=[(6,9),(1,9)]) (by kernel_rfl) ?_;simp only [BZ,cls,r,d,r7,w1,jL ci,tm,S.ld (b:=s) (o:=0) m0 rfl,S.ld (b:=s) (o:=3) m0 rfl,seval];refine bU (zU (a:=a) S.ok (S.row m2) (P.mo S.fr (by omega)) (by omega)) ?_;rintro v h ⟨f,U,a4,rfl,Z,bp,R⟩;have hl:=S.leaves (c:=s) m0 f (by omega);replace S:=S.call1 (i:=2) rfl f (o':=.row _ _) R;simp only [LC]at S;simp only [BZ,cls,seval];refine df (ce (by exact Tryz.t55.1) (by exact Tryz.e135E) (by decide) (by rfl)) S ?_;clear S;intro h W S J ad;simp only [LC,bH,cg,ae,Xh,Xf,Xg,Xm,seval]at S;simp only [BZ,cls,seval];refine mj (S.grow (j:=2) (m:=1) (new:=c7 ⟨j,(j+1)%i,U⟩) rfl Tryz.t55.1 Tryz.e135E (by decide) Tryz.t55.2.2.2.2.2 (by simp only [aK];rw [S.lds (b:=W) (o:=0) (n:=1*3) m0 (lbt rfl)];rfl) rfl (by decide) rfl (by rw [K,jC];omega)) ?_;clear S;rintro h Q S;simp only [LC]at S;replace S:=S.drop1;have fA:Fl Q:=(S.gown _ m2).1.fl;simp only [BZ,cls,d,seval];refine cM (aE S (i:=0) rfl ?_ ?_ ?_ ono) ?_
           . exact(by simp only [FA0])
           . exact(by assumption)
           . exact Xe (lbt rfl)
           clear S;rintro h ⟨S,M⟩;clear M;simp only [LC,ae,lay,Xb,Xc,seval]at S;simp only [BZ,r7,seval];refine⟨by simp only [aJ,aR,aH,aT,aI,ne_eq,not_false_eq_true,aY,bC,aQ,aN,bF,bW,aD,Xs,d,ah,ar hl,seval],?_⟩;simp only [w1];have ba:(j+1)%i<i:=Nat.mod_lt _ (by omega);exact T (j+1) _ _ (by omega) ⟨by omega,a4,Q,A++[⟨j,(j+1)%i,U⟩],by omega,by simp;omega,
            fun x F=>(List.mem_append.1 F).elim (O x) (fun h=>by simp at h;subst h;exact⟨hlt,ba,Z⟩),by rw [Xn];simpa using S,by simp [aB,r,ah,y,d,H,r6]⟩
         . by_cases ai:j<i
           . have I:ring=false:=by cases ring with
              |false=>rfl|true=>exact absurd ⟨ai,rfl⟩ hlt
             subst I;simp only [BZ,d,r6,r7,aF,ai,S.ld (b:=s) (o:=0) m0 rfl,seval];exact dH ⟨a,u,A,by omega,by omega,O,S,by simp [aB,r,ah,y,d,H]⟩
           . simp only [BZ,d,r7,aF,ai,S.ld (b:=s) (o:=0) m0 rfl,seval];exact dH ⟨a,u,A,by omega,by omega,O,S,by simp [aB,r,ah,y,d,H]⟩
       . clear S r y d f R T;rintro g h ⟨a,u,A,ha,lA,O,S,r,y,d,H⟩;simp only [BZ];refine rx (fun g h=> ∃(a:Nat) (u:Value) (A:List Arc),A.length<=100/\(∀x∈A,x.s<i/\x.t<i/\x.w<=2147483647)/\
          St (· =B) h0 h [(s,.row [.int .i64 i,D,G,u] 1),(L,.row [.int .i64 0,.slice none 0 0,.slice none 0 0,.slice none 0 0] 1),(B,.row [V,.int .i64 a] 1)] [(D,1,ints X),(G,1,ints Y),(u,3,A.flatMap c7)]/\
          g 0=ptrTo B/\g 2=ptrTo L/\g 3=ptrTo s)
          (fun(k:Nat) g h=>k<=C/\ ∃(a:Nat) (u:Value) (A:List Arc),a<=a3+2*i+6*k/\A.length<=i+2*k/\(∀x∈A,x.s<i/\x.t<i/\x.w<=2147483647)/\
          St (· =B) h0 h [(s,.row [.int .i64 i,D,G,u] 1),(L,.row [.int .i64 0,.slice none 0 0,.slice none 0 0,.slice none 0 0] 1),(B,.row [V,.int .i64 a] 1)] [(D,1,ints X),(G,1,ints Y),(u,3,A.flatMap c7)]/\
          g 0=ptrTo B/\g 2=ptrTo L/\g 3=ptrTo s/\g 5=.int .i64 C/\g 8=.int .i64 k) (fun k=>C-k) ?_ ?_ 0 ⟨by omega,a,u,A,by omega,by omega,O,S,by simp [aB,r,ah,y,d,H]⟩
         . clear S r y d H ha lA O a u A;intro k T g h ⟨hk,a,u,A,ha,lA,O,S,r,y,d,H,r8⟩;have K:(A.flatMap c7).length=A.length*3:=cB jC A;by_cases hlt:k<C
           . simp only [BZ,H,r8,aF,hlt,seval];refine ao (lS (ord:=[11,0,1,2,3,4,5,6,7,8,9,10,12]) rfl rfl (by simp only [eh,pE,fI,List.getElem?_cons_zero,List.getElem?_cons_succ,List.map_toArray,List.map_cons,List.map_nil,cond_true,cond_false,seval];exact rfl)) (q:=1) (ps:=[(0,10),(0,8),(4,7),(0,4)]) (by kernel_rfl) ?_;simp only [BZ,cls,seval];refine df aA S ?_;clear S;intro h b9 S bE bb;simp only [BZ,cls,r,d,S.ld (b:=s) (o:=0) m1 rfl,seval];refine bU (jm (n:=i) (a:=a) S.ok (S.row m3) (P.mo S.fr (by omega)) (by omega) (by omega)) ?_;rintro v h ⟨f,s1,a4,rfl,bc,bp,R⟩;have bq:=S.leaves (c:=b9) m0 f (by omega);have br:=S.leaves (c:=s) m1 f (by omega);replace S:=S.call1 (i:=3) rfl f (o':=.row _ _) R;simp only [LC]at S;simp only [BZ,cls,r,d,S.ld (b:=s) (o:=0) m1 rfl,seval];refine bU (jm (n:=i) (a:=a4) S.ok (S.row m3) (P.mo S.fr (by omega)) (by omega) (by omega)) ?_;rintro v h ⟨f,s2,a5,rfl,be,b6,R⟩;have bt:=S.leaves (c:=b9) m0 f (by omega);have bu:=S.leaves (c:=s) m1 f (by omega);replace S:=S.call1 (i:=3) rfl f (o':=.row _ _) R;simp only [LC]at S;simp only [BZ,cls,r,seval];refine bU (zU (a:=a5) S.ok (S.row m3) (P.mo S.fr (by omega)) (by omega)) ?_;rintro v h ⟨f,U,a6,rfl,Z,b7,R⟩;have bv:=S.leaves (c:=b9) m0 f (by omega);replace S:=S.call1 (i:=3) rfl f (o':=.row _ _) R;simp only [LC]at S;simp only [BZ,cls,seval];refine cM (S.store (i:=0) rfl ?_ ?_ rfl rfl ?_ ono) ?_
             . exact(by exact Tryz.t135.2.1)
             . exact(by intro x e;cases e)
             . exact lbt rfl
             clear S;rintro h ⟨S,M⟩;clear M;simp only [LC,ae,lay,Xb,Xc,seval]at S;simp only [BZ,d,seval];refine⟨by simp only [aJ,aR,aH,aT,aI,ne_eq,not_false_eq_true,aY,bC,aQ,aN,bF,bW,aD,Xs,d,ah,<-bb,ar bq,ar bt,ar bu,ar bv,au br,seval],?_⟩;simp only [BZ,S.ld (b:=s) (o:=3) m1 rfl,S.lds (b:=b9) (o:=0) (n:=3) m0 (lbt rfl),seval];refine ac (ce (by exact Tryz.t55.1) (by exact Tryz.e135E) (by decide) (by rfl)) S ?_;clear S;intro h W S J;simp only [LC,bH,cg,ae,Xh,Xf,Xg,Xm,seval]at S;simp only [BZ,seval];refine dE (S.grow (j:=2) (m:=1) (new:=c7 ⟨s1,s2,U⟩) rfl Tryz.t55.1 Tryz.e135E (by decide) Tryz.t55.2.2.2.2.2 (by simp only [aK];rw [S.lds (b:=W) (o:=0) (n:=1*3) m0 (lbt rfl)];rfl) rfl (by decide) rfl (by rw [K,jC];omega)) ?_;clear S;rintro h Q S;simp only [LC]at S;replace S:=S.drop1;have fA:Fl Q:=(S.gown _ m2).1.fl;simp only [BZ,d,seval];refine aC (aE S (i:=1) rfl ?_ ?_ ?_ ono) ?_
             . exact(by simp only [FA0])
             . exact(by assumption)
             . exact Xe (lbt rfl)
             clear S;rintro h ⟨S,M⟩;clear M;simp only [LC,ae,lay,Xb,Xc,seval]at S;simp only [BZ,r,seval];refine step_ret (jm (n:=4) (a:=a6) S.ok (S.row m3) (P.mo S.fr (by omega)) (by omega) (by omega)) ?_;rintro v h ⟨f,r9,a7,rfl,b8,ca,R⟩;replace S:=S.call1 (i:=3) rfl f (o':=.row _ _) R;simp only [LC]at S;have w8:an .i64 ((k:Int)+1)=((k+1:Nat):Int):=(by rw [wrap64]<;>omega);have ak:(A.flatMap c7++c7 ⟨s1,s2,U⟩).length=A.length*3+3:=(by rw [Xr,K,jC]);have bf: ∀x∈A++[(⟨s1,s2,U⟩:Arc)],x.s<i/\x.t<i/\x.w<=2147483647:=fun x F=>(List.mem_append.1 F).elim (O x) (fun h=>by simp at h;subst h;exact⟨bc,be,Z⟩);by_cases hz:(r9:Int)=0
             . simp only [BZ,d,hz,S.ld (b:=s) (o:=3) m1 rfl,S.ld (b:=b9) (o:=0) m0 rfl,S.ld (b:=b9) (o:=1) m0 rfl,S.ld (b:=b9) (o:=2) m0 rfl,seval];refine ac (ce (by exact Tryz.t55.1) (by exact Tryz.e135E) (by decide) (by rfl)) S ?_;clear S;intro h W S J;simp only [LC,bH,cg,ae,Xh,Xf,Xg,Xm,seval]at S;simp only [BZ,seval];refine dE (S.grow (j:=2) (m:=1) (new:=c7 ⟨s2,s1,U⟩) rfl Tryz.t55.1 Tryz.e135E (by decide) Tryz.t55.2.2.2.2.2 (by simp only [aK];rw [S.lds (b:=W) (o:=0) (n:=1*3) m0 (lbt rfl)];rfl) rfl (by decide) rfl (by rw [ak,jC];omega)) ?_;clear S;rintro h bh S;simp only [LC]at S;replace S:=S.drop1;have fA:Fl bh:=(S.gown _ m2).1.fl;simp only [BZ,d,seval];refine aC (aE S (i:=1) rfl ?_ ?_ ?_ ono) ?_
               . exact(by simp only [FA0])
               . exact(by assumption)
               . exact Xe (lbt rfl)
               clear S;rintro h ⟨S,M⟩;clear M;simp only [LC,ae,lay,Xb,Xc,seval]at S;simp only [BZ,r8,w8,seval];replace S:=S.drop1;exact T (k+1) _ _ (by omega) ⟨by omega,a7,bh,A++[⟨s1,s2,U⟩]++[⟨s2,s1,U⟩],by omega,by simp;omega,
                fun x F=>(List.mem_append.1 F).elim (bf x) (fun h=>by simp at h;subst h;exact⟨be,bc,Z⟩),by rw [Xn,Xn];simpa using S,by simp [aB,r,ah,y,d,H]⟩
             . simp only [BZ,r8,hz,w8,seval];replace S:=S.drop1;exact T (k+1) _ _ (by omega) ⟨by omega,a7,Q,A++[⟨s1,s2,U⟩],by omega,by simp;omega,
                bf,by rw [Xn];simpa using S,by simp [aB,r,ah,y,d,H]⟩
           . simp only [BZ,H,r8,aF,hlt,seval];exact dH ⟨a,u,A,by omega,O,S,by simp [aB,r,ah,y,d]⟩
         . clear S r y d H ha lA O a u A;rintro g h ⟨a,u,A,lA,O,S,r,y,d⟩;simp only [BZ,y,d,S.lds (b:=s) (o:=0) (n:=4) m0 (lbt rfl),seval];have fX:Fl D:=(S.gown _ m0).1.fl;have fY:Fl G:=(S.gown _ m1).1.fl;have fA:Fl u:=(S.gown _ m2).1.fl;refine aC (S.store (i:=1) rfl Tryz.t57.2.1 (by intro x e;cases e) rfl (by simp only [ae,Xb,Xc,List.all_cons,List.all_nil,fX.2.1,fY.2.1,fA.2.1,Xs];rfl) (lbt rfl) ono) ?_;clear S;rintro h ⟨S,_⟩;simp only [LC,ae,lay,Xb,Xc,seval]at S;simp only [BZ,ab];refine⟨_,vp (by decide) (by simp only [aD,y,ah,seval];exact bj Tryz.t57.1 Tryz.t57.2.1 (S.lds (b:=L) (o:=0) (n:=4) m1 (lbt rfl))),?_⟩;have al: ∀p∈[(D,1,ints X),(G,1,ints Y),(u,3,A.flatMap c7)],∀c,aq p.1 c->h0.n<=c:=by
            intro p hp c hc;obtain⟨h1,h2⟩:=S.gblk hp hc;rcases h1 with h1|h1
            . exact h1
            . exact absurd (by simp [h1]) h2
           refine⟨S.fr,⟨i,X,Y,A⟩,D,G,u,rfl,⟨show 1<=i by omega,show i<=12 by omega,lX,lY,cX,cY,lA,O⟩,show i=_ by omega,⟨(S.gown _ m0).1.sl rfl (fun _=>rfl) (by decide),(S.gown _ m1).1.sl rfl (fun _=>rfl) (by decide),(S.gown _ m2).1.sl rfl (fun _=>rfl) (by decide)⟩,?_⟩;rintro c (hc|hc|hc)
           . exact al _ m0 c hc
           . exact al _ m1 c hc
           . exact al _ m2 c hc
 . exact⟨by omega,a0,_,_,[],[],by omega,rfl,rfl,by simp,by simp,S,by simp [aB,dh,ah]⟩
theorem raw_ok(l:OZ h0){k:Value}(m:Row h0 j [k,.int .i64 ((0:Nat):Int)] 1)(n:DrAt h0 j k xs 0):
 Ret zM 31 [ptrTo j] h0 fun v h'=>Mo (· =j) h0 h'/\ ∃e g h i,v=jh e g h i/\Good e/\dQ h' g h i e/\ ∀c,(aq g c\/aq h c\/aq i c)->h0.n<=c:=
 (raw0_ok l m n).mono fun v h' ⟨f,e,g,h,i,a,b,_,c,d⟩=>⟨f,e,g,h,i,a,b,c,d⟩
theorem am(g:Gr h h')(a:b<h.n):leaves h h' b=true:=pR (g.get b a)
theorem own_ok(R:OZ h0){u:Gra}(k:kQ u){p:Value}(F:dQ h0 p r l u):
 Ret zM 63 [jh u p r l] h0 fun v h'=>Gr h0 h'/\ ∃p r l,v=jh u p r l/\dQ h' p r l u/\(∀c,aq p c\/aq r c\/aq l c->h0.n<=c)/\WrK h' 3 c7 l u.arcs/\ ∀c,aq l c-> ¬aq p c/\ ¬aq r c:=by
 have S:=Si R;have lX:=k.lX;have lY:=k.lY;have n2:=k.n2;have M:=k.many;refine aa (n:=16) (rs:=[.cell 2 57]) rfl Tryz.e63 rfl rfl rfl (lbt rfl) ?_;simp only [BZ,jh,seval];refine ac (aV (by intro x e;cases e)) S ?_;clear S;intro h b S T;simp only [ae]at S;simp only [BZ];refine ac aA S ?_;clear S;intro h s S N;simp only [BZ];refine ao (av rfl) (q:=0) (ps:=[(5,7),(2,7),(2,4)]) (by kernel_rfl) ?_;simp only [BZ,cls,S.ld (b:=b) (o:=1) m1 rfl,seval];refine bU (sW S.ok (F.X.gr S.gr) (by omega)) ?_;have U:=S.fr.n;rintro y h ⟨g,f,G⟩;have O:=am g ((S.row (b:=b) m1).lt S.ok);have H: ∀c,aq y c-> ¬c=b:=fun c d e=>by have:=G c d;have:=(S.row (b:=b) m1).lt S.ok;omega
 have I: ∀c,aq y c-> ¬c=s:=fun c d e=>by have:=G c d;have:=(S.row (b:=s) m0).lt S.ok;omega
 replace S:=S.call g;simp only [BZ,cls,S.ld (b:=b) (o:=2) m1 rfl,seval];refine bU (sW S.ok (F.Y.gr S.gr) (by omega)) ?_;have V:=S.fr.n;rintro A h ⟨g,j,J⟩;have P:=am g ((S.row (b:=b) m1).lt S.ok);have K: ∀c,aq A c-> ¬c=b:=fun c d e=>by have:=J c d;have:=(S.row (b:=b) m1).lt S.ok;omega
 have L: ∀c,aq A c-> ¬c=s:=fun c d e=>by have:=J c d;have:=(S.row (b:=s) m0).lt S.ok;omega
 replace S:=S.call g;replace f:=f.gr g;simp only [BZ,cls,S.ld (b:=b) (o:=3) m1 rfl,seval];refine bU (C3 S.ok (F.A.gr S.gr) (by omega)) ?_;have W:=S.fr.n;rintro B h ⟨g,m,C,t⟩;have X: ∀c,aq B c-> ¬aq y c/\ ¬aq A c:=fun c d=>⟨fun h=>by have:=C c d;have:=f.lt S.ok h;omega,fun h=>by have:=C c d;have:=j.lt S.ok h;omega⟩;have Q:=am g ((S.row (b:=b) m1).lt S.ok);have w: ∀c,aq B c-> ¬c=b:=fun c d e=>by have:=C c d;have:=(S.row (b:=b) m1).lt S.ok;omega
 have D: ∀c,aq B c-> ¬c=s:=fun c d e=>by have:=C c d;have:=(S.row (b:=s) m0).lt S.ok;omega
 replace S:=S.call g;replace f:=f.gr g;replace j:=j.gr g;have z: ∀c,aq y c\/aq A c\/aq B c->h0.n<=c:=fun c d=>by
  rcases d with h|h|h
  . exact Xl U (G c h)
  . exact Xl V (J c h)
  . exact Xl W (C c h)
 have Y:=f.fl;have Z:=j.fl;have f3:=m.fl;simp only [BZ,cls,seval];refine cM (aE S (i:=1) rfl ?_ ?_ ?_ ono) ?_
 . exact(by simp only [FA0])
 . exact(by assumption)
 . exact Xe (lbt rfl)
 clear S;rintro h ⟨S,a⟩;replace f:=f.mo a H;replace j:=j.mo a K;replace m:=m.mo a w;replace t:=t.mo a w;clear a;simp only [LC,ae,lay,Xb,Xc,seval]at S;simp only [BZ,cls,seval];refine cM (aE S (i:=1) rfl ?_ ?_ ?_ ono) ?_
 . exact(by simp only [FA0])
 . exact(by assumption)
 . exact Xe (lbt rfl)
 clear S;rintro h ⟨S,a⟩;replace f:=f.mo a H;replace j:=j.mo a K;replace m:=m.mo a w;replace t:=t.mo a w;clear a;simp only [LC,ae,lay,Xb,Xc,seval]at S;simp only [BZ,cls,seval];refine cM (aE S (i:=1) rfl ?_ ?_ ?_ ono) ?_
 . exact(by simp only [FA0])
 . exact(by assumption)
 . exact Xe (lbt rfl)
 clear S;rintro h ⟨S,a⟩;replace f:=f.mo a H;replace j:=j.mo a K;replace m:=m.mo a w;replace t:=t.mo a w;clear a;simp only [LC,ae,lay,Xb,Xc,seval]at S;simp only [BZ,seval];refine⟨by simp only [aJ,aR,aH,aT,aI,ne_eq,not_false_eq_true,aY,bC,aQ,aN,bF,bW,aD,Xs,cG,ah,ar O,ar P,ar Q,au O,au P,au Q,seval],?_⟩;simp only [BZ,S.lds (b:=b) (o:=0) (n:=4) m1 (lbt rfl),seval];refine aC (S.store (i:=0) rfl Tryz.t57.2.1 (by intro x e;cases e) rfl (by simp only [ae,Xb,Xc,List.all_cons,List.all_nil,Y.2.1,Z.2.1,f3.2.1,Xs];rfl) (lbt rfl) ono) ?_;clear S;rintro h' ⟨S,E⟩;simp only [LC,ae,lay,Xb,Xc,seval]at S;simp only [BZ,ab];refine⟨_,vp (by decide) (by simp only [aD,ah,seval];exact bj Tryz.t57.1 Tryz.t57.2.1 (S.lds (b:=s) (o:=0) (n:=4) m0 (lbt rfl))),?_⟩;exact⟨S.gr,y,A,B,rfl,⟨f.mo E I,j.mo E L,m.mo E D⟩,z,t.mo E D,X⟩
section
variable(A:List Arc)(f:Arc->Nat)
def outs(j v:Nat):List Nat:=(zO j).filter fun i=>decide (f (A.getD i default)=v)
def start:Nat->Nat
 |0=>0|v+1=>start v+(outs A f A.length v).length
theorem jw(j v:Nat):outs A f (j+1) v=outs A f j v++(if f (A.getD j default)=v then [j]else []):=by simp_all[outs,XI,List.filter_append,default,List.filter_cons,List.filter_nil,decide_true,if_true]
theorem outs_pre(h:j<=k)(v:Nat): ∃l,outs A f k v=outs A f j v++l:=by
 induction k with
 |zero=>simp_all| succ k a=>
   by_cases b:j=k+1
   . simp_all
   grind[jw,List.append_assoc]
theorem zt(h:j<=k)(v:Nat):(outs A f j v).length<=(outs A f k v).length:=by obtain⟨l,a⟩:=outs_pre A f h v;grind
theorem start_eq(v:Nat):start A f v=((zO A.length).filter fun i=>decide (f (A.getD i default)<v)).length:=by
 have a: ∀(l:List Nat) (v:Nat),(l.filter fun i=>decide (f (A.getD i default)<v+1)).length=(l.filter fun i=>decide (f (A.getD i default)<v)).length+(l.filter fun i=>decide (f (A.getD i default)=v)).length:=by
  intro l v
  induction l with
  |nil=>rfl| cons x l b=>grind
 induction v with
 |zero=>rw [start];symm;simp_all|succ v b=>rw [start,b,a];rfl
theorem rK(v:Nat):start A f v+(outs A f A.length v).length<=A.length:=by have:=start_eq A f (v+1);grind[start,Xl,XL]
theorem xZ{u:Nat}(h:u<v):start A f u+(outs A f A.length u).length<=start A f v:=by
 induction v with
 |zero=>omega| succ v a=>rw [start];grind
theorem Dq{u r:Nat}(b:r<(outs A f A.length u).length)(c:s<(outs A f A.length v).length)(h:start A f u+r=start A f v+s):u=v/\r=s:=by
 rcases Nat.lt_trichotomy u v with a|a|a
 . have:=xZ A f a;omega
 . grind
 . have:=xZ A f a;omega
end
def bK(x:Nat):List Value:=[.int .i64 x]
theorem dC(x:Nat):(bK x).length=1:=rfl
def iK(h:Hp)(m:Nat)(v:Value)(N:Nat)(R:Nat->List Nat):Prop:=
 ∃a b,v=.slice (some ⟨a,0,none⟩) N N/\m<=a/\Row h a b 1/\b.length=N/\ ∀i,i<N-> ∃w,b[i]? =some w/\az h 1 bK w (R i)/\ ∀c,aq w c->m<=c
theorem iK.mo{M:Nat->Prop}{h h':Hp}{v:Value}{m N:Nat}{R:Nat->List Nat}(r:iK h m v N R)(g:Mo M h h')(q: ∀b,M b->b<m):iK h' m v N R:=by obtain⟨e,d,f,s,j,k,l⟩:=r;refine⟨e,d,f,by omega,g.has (o:=.row d 1) j (fun h=>by grind),k,fun i n=>?_⟩;obtain⟨w,a,b,c⟩:=l i n;exact⟨w,a,b.mo g fun x p t=>by grind,fun x p=>by grind⟩
theorem iK.gr{v:Value}{R:Nat->List Nat}(g:Gr h h')(r:iK h m v N R):iK h' m v N R:=
 r.mo (M:=NoM) g.fr (fun _ h=>h.elim)
theorem iK.low{v:Value}{R:Nat->List Nat}(r:iK h m v N R)(g:a<=m):iK h a v N R:=by
 obtain⟨b,c,d,j,e,f,k⟩:=r;exact⟨b,c,d,by omega,e,f,fun i l=>by
  grind⟩
structure aS(h:Hp)(m:Nat)(p:Value)(γ:Gra):Prop where
 ex: ∃b vx vy va vo vi,p=ptrTo b/\Row h b [.int .i64 γ.nodes,vx,vy,va,vo,vi] 1/\dQ h vx vy va γ/\iK h m vo γ.nodes (outs γ.arcs Arc.s γ.arcs.length)/\iK h m vi γ.nodes (outs γ.arcs Arc.t γ.arcs.length)/\m<=b/\ ∀c,aq vx c\/aq vy c\/aq va c->m<=c
theorem dQ.mo{M:Nat->Prop}{h h':Hp}{b d e:Value}{i:Gra}(a:dQ h b d e i)(g:Mo M h h')(f: ∀c,aq b c\/aq d c\/aq e c-> ¬M c):dQ h' b d e i:=
 ⟨a.X.mo g fun c h=>f c (.inl h),a.Y.mo g fun c h=>f c (.inr (.inl h)),a.A.mo g fun c h=>f c (.inr (.inr h))⟩
theorem aS.mo{M:Nat->Prop}{h h':Hp}{m:Nat}{p:Value}{a:Gra}(n:aS h m p a)(g:Mo M h h')(d: ∀b,M b->b<m):aS h' m p a:=by obtain⟨b,e,f,i,j,k,l,q,r,s,t,u,v⟩:=n.ex;exact⟨b,e,f,i,j,k,l,g.has (o:=.row _ 1) q (fun h=>by grind),r.mo g (fun c w x=>by grind),s.mo g d,t.mo g d,u,v⟩
theorem aS.gr{p:Value}{a:Gra}(n:aS h m p a)(g:Gr h h'):aS h' m p a:=n.mo (M:=NoM) g.fr (fun _ h=>h.elim)
theorem kU{a:Type}{F F':Nat->a}(b: ∀i,i<N->i≠k->F' i=F i):((zO N).map F).set k (F' k)=(zO N).map F':=by refine Xt fun i=>?_;grind
theorem lE{a:Type}{F:Nat->a}(b:k<N):((zO N).map F)[k]? =some (F k):=by simp [b]
theorem slice_at{E:Env}{e:TypeId}{len cap l:Nat}{a c d:IntKind}(i:E.und t=some (.slice e))(j:E.sz e=some k)(f:l<=m)(o:m<=cap):
 ic E t (.slice (some ⟨b,0,none⟩) len cap) (some (.int a (l:Int))) (some (.int c (l:Int))) (some (.int d (m:Int)))=some (.slice (some ⟨b,if m=l then 0 else l*k,none⟩) 0 (m-l)):=by
 have g: ∀n:Nat,jf (n:Int)=some n:=fun n=>rfl;simp only [ic,i,gY,gL,g,Xw o,Xw f,Xw (XD l),cond_true,j,Nat.sub_self,Option.map];by_cases h:m=l
 . subst h;rw [Nat.beq_refl];simp
 . have:Nat.beq m l=false:=by
    cases p:Nat.beq m l with
    |false=>rfl|true=>exact absurd (Nat.eq_of_beq_eq_true p) h
   rw [this,if_neg h];simp [ig]
theorem St.fill{M:Nat->Prop}{L:List (Nat×Ob)}{G:List GL}(S:St M h0 h L G){E:Env}{k e:TypeId}{d off len cap md:Nat}{q l:List Value}{s:Option Nat}{x v:Value}(m:L[i]? =some (b,.row l md))(r:E.und t=some (.slice e))(u:fu E e d 1 q)
 (w:ez E k=some false) (a:aK h 1 x=some (1,[v])) (z:Fl v) (F:len<cap) (A:off+len<l.length) (f:md≠0) {ts:List TypeId}:
 ∃h',dK E h (t::k::ts) (.slice (some ⟨b,off,s⟩) len cap) x=some (h',.slice (some ⟨b,off,s⟩) (len+1) cap)/\St M h0 h' (L.set i (b,.row (l.set (off+len) v) md)) G/\Mo (· =b) h h':=by
 obtain⟨⟨H,g,rfl,c⟩,I,B⟩:=u;have C:=S.row (Xy m);obtain⟨y,D,n⟩:=C.store S.ok f (o:=off+len) (vs:=[v]) (by simp;omega) (by simp [z.2.1]);have e:lay l (off+len) [v]=l.set (off+len) v:=by
  refine Xt fun j=>?_;rw [lC (by simp;omega),XF];simp only [List.length_cons,List.length_nil];by_cases p:off+len=j
  . subst p;rw [if_pos ⟨XD _,by omega⟩,if_pos rfl,if_pos A];simp
  . rw [if_neg (by omega),if_neg p]
 rw [e]at n;refine⟨h.put b y,?_,S.put m n,(Mo.refl (M:=(· =b)) S.ok).put (.inr rfl) y⟩;simp only [dK,w,lH,r,g,c,a];unfold gX;rw [Xw (by omega:len+1<=cap)];simp only [cond_true,c,Xg,D]
theorem note_runq{ρ:Operand->Value}{f:Operand}{xs:Array Operand}{ts:Array TypeId}:cQ ρ true (.call ⟨.value f,xs,ts⟩) h h'=none:=rfl
theorem j9:cZ i []=none:=rfl
theorem pair_n{x:Option Tch}:jt none x=true:=rfl
def KeyF(E:Env)(g:FuncId)(f:Arc->Nat):Prop:= ∀(h:Hp) (a:Arc),OZ h->aO E g [.agg ⟨c7 a⟩] h (.int .i64 (f a))
theorem of2_key:KeyF zM 167 Arc.s:=by intro f a c;have S:=Si c;refine aa (n:=5) (rs:=[.tmp 2]) rfl Tryz.e167 rfl rfl rfl (lbt rfl) ?_;simp only [BZ,c7,seval];refine ac (aV (by intro x e;cases e)) S ?_;clear S;intro h b S d;simp only [ae]at S;simp only [BZ,ab,S.ld (b:=b) (o:=0) m0 rfl,seval];exact S.gr
theorem of3_key:KeyF zM 168 Arc.t:=by intro f a c;have S:=Si c;refine aa (n:=5) (rs:=[.tmp 2]) rfl Tryz.e168 rfl rfl rfl (lbt rfl) ?_;simp only [BZ,c7,seval];refine ac (aV (by intro x e;cases e)) S ?_;clear S;intro h b S d;simp only [ae]at S;simp only [BZ,ab,S.ld (b:=b) (o:=1) m0 rfl,seval];exact S.gr
theorem kI(A:List Arc)(f:Arc->Nat)(j v:Nat):(outs A f j v).length<=j:=by unfold outs;exact Xl (XL _ _) (by simp)
theorem sK(z:Value)(N:Nat):bH [z] ((N:Int)).toNat=(zO N).map fun _=>z:=by
 rw [XC];have: ∀n,bH [z] n=List.replicate n z:=by
  intro n
  induction n with
  |zero=>rfl|succ n a=>simp [bH,a,List.replicate_succ]
 rw [this,XB,List.length_range]
def pA(A:List Arc)(f:Arc->Nat)(i v:Nat):Value:=.int .i64 ((outs A f i v).length:Nat)
def iZ(A:List Arc)(f:Arc->Nat)(b v n:Nat):Value:=.slice (some ⟨b,if(outs A f A.length v).length=0 then 0 else start A f v,none⟩) n (outs A f A.length v).length
theorem cnt_set{A:List Arc}{f:Arc->Nat}(c:i<A.length):((zO N).map (pA A f i)).set (f A[i]) (.int .i64 (((outs A f i (f A[i])).length+1:Nat):Int))=(zO N).map (pA A f (i+1)):=by
 have b:A.getD i default=A[i]:=by simp [Xd,c]
 have e:(.int .i64 (((outs A f i (f A[i])).length+1:Nat):Int):Value)=pA A f (i+1) (f A[i]):=by unfold pA;rw [jw,b,if_pos rfl,Xr];rfl
 rw [e];refine kU fun v d a=>?_;unfold pA;rw [jw,b,if_neg (fun e=>a e.symm),XE]
def yX(A:List Arc)(f:Arc->Nat)(N i:Nat)(cs:List Value):Prop:=
 cs.length=A.length/\ ∀v r x,v<N->(outs A f i v)[r]? =some x->cs[start A f v+r]? =some (.int .i64 (x:Nat))
theorem fill_zero{A:List Arc}{f:Arc->Nat}:yX A f N 0 ((zO A.length).map fun _=>.int .i64 0):=
 ⟨by simp,fun v r x _ h=>by simp [outs]at h⟩
theorem fill_step{A:List Arc}{f:Arc->Nat}{cs:List Value}(h:yX A f N i cs)(k:i<A.length):yX A f N (i+1) (cs.set (start A f (f A[i])+(outs A f i (f A[i])).length) (.int .i64 (i:Nat))):=by
 have c:A.getD i default=A[i]:=by simp [Xd,k]
 have g:(outs A f (i+1) (f A[i])).length<=(outs A f A.length (f A[i])).length:=zt A f (by omega) _;rw [jw,c,if_pos rfl,Xr]at g;have hlt:(outs A f i (f A[i])).length<(outs A f A.length (f A[i])).length:=by simp at g;omega
 have l:=rK A f (f A[i]);refine⟨by rw [XJ];exact h.1,fun v r x m a=>?_⟩;have n:r<(outs A f (i+1) v).length:=(List.getElem?_eq_some_iff.1 a).1;have d:r<(outs A f A.length v).length:=Nat.lt_of_lt_of_le n (zt A f (by omega) v);rw [XF];by_cases e:start A f (f A[i])+(outs A f i (f A[i])).length=start A f v+r
 . obtain⟨b,o⟩:=Dq A f hlt d e;subst b;rw [if_pos e,if_pos (by rw [h.1];omega)];rw [jw,c,if_pos rfl,XP,if_neg (by omega),o,Nat.sub_self]at a;simp at a;rw [a]
 . rw [if_neg e];refine h.2 v r x m ?_;rw [jw,c]at a;by_cases b:f A[i]=v
   . rw [if_pos b,XP]at a;subst b;by_cases j:r<(outs A f i (f A[i])).length
     . rw [if_pos j]at a;exact a
     . rw [if_neg j]at a;have:=(List.getElem?_eq_some_iff.1 a).1;simp at this;exact absurd (by omega) e
   . rw [if_neg b,XE]at a;exact a
theorem of1_ok  (ok:OZ h0) {u:Gra} (J:kQ u) {vx vy K:Value}  (hb:Row h0 b [.int .i64 u.nodes,vx,vy,K] 1) (ga:dQ h0 vx vy K u) {g:FuncId} {f:Arc->Nat} (hk:KeyF zM g f) (hf: ∀a∈u.arcs,f a<u.nodes):
 Ret zM 166 [.func (.func g) #[] #[],ptrTo b] h0 fun v h'=>Gr h0 h'/\iK h' h0.n v u.nodes (outs u.arcs f u.arcs.length):=by
 have S:=Si ok;have n2:=J.n2;have L:=J.many;obtain⟨N,X,Y,A⟩:=u;simp only []at hb n2 L hf;have M:az h0 3 c7 K A:=ga.A;have l0:=hb.load1 (o:=0) rfl;have l3:=hb.load1 (o:=3) rfl;refine aa (n:=85) (rs:=[.tmp 3]) rfl Tryz.e166 rfl rfl rfl (lbt rfl) ?_;simp only [BZ,l0,seval];refine ac (lZ (by exact Tryz.t41.1) (by exact Tryz.e3E) (by omega) (by omega)) S ?_;clear S;intro h B S al;rw [sK]at S;replace S:St NoM h0 h [(B,.row ((zO N).map (pA A f 0)) 1)] []:=S;simp only [BZ,S.old l3 (fun h=>h),M.lenq,XC,seval];refine aW (fun(i:Nat) m h=>i<=A.length/\St NoM h0 h [(B,.row ((zO N).map (pA A f i)) 1)] []/\m 0=.func (.func g) #[] #[]/\m 1=ptrTo b/\m 4=.slice (some ⟨B,0,none⟩) N N/\m 18=K/\m 19=.int .i64 A.length/\m 20=.int .i64 i) (fun i=>A.length-i) ?_ 0 _ _ ?_
 . clear S;intro i O m h ⟨hi,S,r0,r1,r4,r18,r19,r20⟩;by_cases hlt:i<A.length
   . obtain⟨c,o,t,C⟩:=(M.gr S.gr).ix (kd:=.i64) jC hlt;have p:f A[i]<N:=hf _ (Xx hlt);have a2:=kI A f i (f A[i]);have w:an .i64 ((i:Int)+1)=((i+1:Nat):Int):=(by rw [wrap64]<;>omega);have W:an .i64 (((outs A f i (f A[i])).length:Int)+1)=(((outs A f i (f A[i])).length+1:Nat):Int):=(by rw [wrap64]<;>omega);simp only [BZ,r18,r19,r20,aF,hlt,t,C,seval];refine ac aA S ?_;clear S;intro h b6 S ax;simp only [BZ,c7,seval];refine aC (S.store (i:=0) rfl ?_ ?_ rfl rfl ?_ ono) ?_
     . exact(by exact Tryz.t135.2.1)
     . exact(by intro x e;cases e)
     . exact lbt rfl
     clear S;rintro h ⟨S,y⟩;clear y;simp only [LC,ae,lay,Xb,Xc,seval]at S;simp only [BZ,r0,r4,S.lds (b:=b6) (o:=0) (n:=3) m0 (lbt rfl),seval];refine ag (hk _ A[i] S.ok) ?_;intro h g;replace S:=S.call g;clear g;have D:=S.ld (b:=B) (o:=f A[i]) m1 (lE (F:=pA A f i) p);unfold pA at D;simp only [BZ,p,D,W,seval];refine aC (aE S (i:=1) rfl Tryz.t3.2.2.1 aZ (by simpa using p) ono) ?_;clear S D;rintro h ⟨S,y⟩;clear y;simp only [LC]at S;rw [cnt_set hlt]at S;replace S:=S.drop1;simp only [BZ,r20,w,seval];exact O (i+1) _ _ (by omega) ⟨by omega,S,by simp [aB,r0,r1,ah,r4,r18,r19]⟩
   . have E : i=A.length:=(by omega);subst E;simp only [BZ,r19,r20,aF,hlt,seval];refine ao (av rfl) (q:=72) (ps:=[]) (by kernel_rfl) ?_;simp only [BZ,cls,r1,S.old l3 (fun h=>h),M.lenq,seval];refine df (lZ (by exact Tryz.t41.1) (by exact Tryz.e3E) (by omega) (by omega)) S ?_;clear S;intro h d S Q ay;rw [sK]at S;simp only [BZ,cls,r1,S.old l0 (fun h=>h),XC,seval];refine df (lZ (by exact Tryz.t90.1) (by exact Tryz.e41E) (by omega) (by omega)) S ?_;clear S;intro h H S R aL;rw [sK]at S;simp only [BZ,cls,r4,XC,seval];have e0:(zO N).map (fun v=>if v<0 then iZ A f d v 0 else .slice none 0 0)=(zO N).map (fun _=>(.slice none 0 0:Value)):=(by simp);rw [<-e0]at S;refine aW (fun(j:Nat) m h=>j<=N/\St NoM h0 h [(H,.row ((zO N).map fun v=>if v<j then iZ A f d v 0 else .slice none 0 0) 1),(d,.row ((zO A.length).map fun _=>.int .i64 0) 1),(B,.row ((zO N).map (pA A f A.length)) 1)] []/\
      m 0=.func (.func g) #[] #[]/\m 1=ptrTo b/\m 7=.slice (some ⟨d,0,none⟩) A.length A.length/\m 8=.slice (some ⟨H,0,none⟩) N N/\m 9=.int .i64 (start A f j)/\m 40=.slice (some ⟨B,0,none⟩) N N/\m 41=.int .i64 N/\m 42=.int .i64 j) (fun j=>N-j) ?_ 0 _ _ ?_
     . clear S r0 r1 r4 r18 r19 r20;intro j O m h ⟨hj,S,r0,r1,r7,r8,r9,r40,r41,r42⟩;by_cases z:j<N
       . have D:=S.ld (b:=B) (o:=j) m2 (lE (F:=pA A f A.length) z);unfold pA at D;have ad:=rK A f j;have w:an .i64 ((j:Int)+1)=((j+1:Nat):Int):=(by rw [wrap64]<;>omega);have W:an .i64 ((start A f j:Int)+((outs A f A.length j).length:Nat))=((start A f j+(outs A f A.length j).length:Nat):Int):=(by rw [wrap64]<;>omega);have sl:ic zM 41 (.slice (some ⟨d,0,none⟩) A.length A.length) (some (.int .i64 (start A f j))) (some (.int .i64 (start A f j))) (some (.int .i64 ((start A f j+(outs A f A.length j).length:Nat):Int)))=some (iZ A f d j 0):=by
          rw [slice_at Tryz.t41.1 Tryz.t3.2.2.1 (by omega) (by omega)];unfold iZ;rw [Nat.add_sub_cancel_left,Xg];by_cases G:(outs A f A.length j).length=0
          . rw [if_pos (by omega),if_pos G]
          . rw [if_neg (by omega),if_neg G]
         have fr:Fl (iZ A f d j 0):=aU;simp only [BZ,Option.map_some,r7,r8,r9,r40,r41,r42,aF,z,D,W,sl,seval];refine aC (aE S (i:=0) rfl Tryz.t41.2.2.1 fr (by simpa using z) ono) ?_;clear S D;rintro h ⟨S,y⟩;clear y;simp only [LC]at S;rw [show((zO N).map fun v=>if v<j then iZ A f d v 0 else .slice none 0 0).set j (iZ A f d j 0)=(zO N).map fun v=>if v<j+1 then iZ A f d v 0 else .slice none 0 0 from by
          have:=kU (N:=N) (k:=j) (F:=fun v=>if v<j then iZ A f d v 0 else .slice none 0 0) (F':=fun v=>if v<j+1 then iZ A f d v 0 else .slice none 0 0) (fun v I T=>by
           show ite _ _ _=ite _ _ _;by_cases h1:v<j
           . rw [if_pos h1,if_pos (by omega)]
           . rw [if_neg h1,if_neg (by omega)])
          simp only [if_pos (show j<j+1 by omega)]at this;exact this]at S
         simp only [BZ,r9,r42,w,W,seval];exact O (j+1) _ _ (by omega) ⟨by omega,S,by simp [aB,r0,r1,ah,r7,r8,start,r40,r41]⟩
       . have af:j=N:=(by omega);subst af;simp only [BZ,r1,r41,r42,aF,z,S.old l3 (fun h=>h),M.lenq,seval];have e1:((zO j).map fun v=>if v<j then iZ A f d v 0 else .slice none 0 0)=(zO j).map fun v=>iZ A f d v (outs A f 0 v).length:=(by refine List.map_congr_left fun v I=>?_;rw [if_pos (List.mem_range.1 I)];rfl);rw [e1]at S;refine aW (fun(i:Nat) m h=>i<=A.length/\(∃Z,yX A f j i Z/\St NoM h0 h [(H,.row ((zO j).map fun v=>iZ A f d v (outs A f i v).length) 1),(d,.row Z 1),(B,.row ((zO j).map (pA A f A.length)) 1)] [])/\
          m 0=.func (.func g) #[] #[]/\m 1=ptrTo b/\m 8=.slice (some ⟨H,0,none⟩) j j/\m 62=K/\m 63=.int .i64 A.length/\m 64=.int .i64 i) (fun i=>A.length-i) ?_ 0 _ _ ?_
         . clear S r0 r1 r7 r8 r9 r40 r41 r42;intro i O m h ⟨hi,⟨Z,hcs,S⟩,r0,r1,r8,r62,r63,r64⟩;by_cases hlt:i<A.length
           . obtain⟨c,o,t,C⟩:=(M.gr S.gr).ix (kd:=.i64) jC hlt;have p:f A[i]<j:=hf _ (Xx hlt);have w:an .i64 ((i:Int)+1)=((i+1:Nat):Int):=(by rw [wrap64]<;>omega);simp only [BZ,r62,r63,r64,aF,hlt,t,C,seval];refine ac aA S ?_;clear S;intro h U S ai;simp only [BZ,c7,seval];refine aC (S.store (i:=0) rfl ?_ ?_ rfl rfl ?_ ono) ?_
             . exact(by exact Tryz.t135.2.1)
             . exact(by intro x e;cases e)
             . exact lbt rfl
             clear S;rintro h ⟨S,y⟩;clear y;simp only [LC,ae,lay,Xb,Xc,seval]at S;simp only [BZ];refine ao (av rfl) (q:=2184) (ps:=[(3,6)]) (by kernel_rfl) ?_;simp only [BZ,cls,r0,r8,S.lds (b:=U) (o:=0) (n:=3) m0 (lbt rfl),seval];refine vg (hk _ A[i] S.ok) ?_;intro h V;replace S:=S.call V;clear V;simp only [BZ,cls,r0,r8,S.lds (b:=U) (o:=0) (n:=3) m0 (lbt rfl),seval];refine vg (hk _ A[i] S.ok) ?_;intro h V;replace S:=S.call V;clear V;have hd:A.getD i default=A[i]:=(by simp [Xd,hlt]);have hl:(outs A f (i+1) (f A[i])).length<=(outs A f A.length (f A[i])).length:=zt A f (by omega) _;rw [jw,hd,if_pos rfl,Xr,XM]at hl;have ad:=rK A f (f A[i]);have hK:(outs A f A.length (f A[i])).length≠0:=(by omega);have lr:=S.ld (b:=H) (o:=f A[i]) m1 (lE (F:=fun v=>iZ A f d v (outs A f i v).length) p);simp only [iZ,if_neg hK]at lr;simp only [BZ,cls,p,lr,seval];refine df (ce (by exact Tryz.t41.1) (by exact Tryz.e3E) (by decide) (by rfl)) S ?_;clear S;intro h bs S a0 a1;simp only [LC,bH,cg,ae,Xh,Xf,Xg,Xm,seval]at S;simp only [BZ,cls,seval];obtain⟨h2,e2,S2,ak⟩:=S.fill (i:=3) (x:=.slice (some ⟨bs,0,none⟩) 1 1) (v:=.int .i64 (i:Nat)) (off:=start A f (f A[i])) (len:=(outs A f i (f A[i])).length) (cap:=(outs A f A.length (f A[i])).length) (s:=none) rfl Tryz.t41.1 Tryz.e3E Tryz.t41.2.2.2.2.2
              (by simp only [aK];rw [S.lds (b:=bs) (o:=0) (n:=1*1) m0 (lbt rfl)];rfl) aZ (by omega) (by have:=hcs.1;omega) ono (ts:=[])
             refine mj (P:=fun h' v=>h'=h2/\v=.slice (some ⟨d,start A f (f A[i]),none⟩) ((outs A f i (f A[i])).length+1) (outs A f A.length (f A[i])).length) ⟨_,_,e2,rfl,rfl⟩ ?_;rintro h v ⟨rfl,rfl⟩;clear S e2 ak;have S:=S2;clear S2;simp only [LC]at S;simp only [BZ,cls,p,seval];refine cM (aE S (i:=2) rfl Tryz.t41.2.2.1 aU (by simpa using p) ono) ?_;clear S;rintro h ⟨S,y⟩;clear y;simp only [LC]at S;have e3:((zO j).map fun v=>iZ A f d v (outs A f i v).length).set (f A[i]) (.slice (some ⟨d,start A f (f A[i]),none⟩) ((outs A f i (f A[i])).length+1) (outs A f A.length (f A[i])).length)=(zO j).map fun v=>iZ A f d v (outs A f (i+1) v).length:=by
              have:=kU (N:=j) (k:=f A[i]) (F:=fun v=>iZ A f d v (outs A f i v).length) (F':=fun v=>iZ A f d v (outs A f (i+1) v).length) (fun v I T=>by
               show iZ _ _ _ _ _=iZ _ _ _ _ _;rw [jw,hd,if_neg (fun e=>T e.symm),XE])
              rw [<-this];congr 1;show _=iZ _ _ _ _ _;rw [jw,hd,if_pos rfl,Xr];unfold iZ;rw [if_neg hK];rfl
             rw [e3]at S;replace S:=S.drop1.drop1;simp only [BZ,r64,w,seval];refine⟨by simp only [aJ,aR,aH,aT,aI,ne_eq,not_false_eq_true,aY,bC,aQ,aN,bF,bW,aD,Xs,r0,r1,r8,ah,note_runq,kw,j9,pair_n,seval],?_⟩;exact O (i+1) _ _ (by omega) ⟨by omega,⟨_,fill_step hcs hlt,S⟩,by simp [aB,r0,r1,ah,r8,r62,r63]⟩
           . have E:i=A.length:=(by omega);subst E;simp only [BZ,ab,r8,r63,r64,aF,hlt,seval];refine⟨S.gr,H,_,rfl,R,S.row m0,by simp,fun v I=>⟨_,lE I,.inr ⟨d,_,none,_,rfl,XD _,?_⟩,fun c (hc:d=c)=>hc▸Q⟩⟩;have hR:=S.row (b:=d) (l:=Z) (md:=1) m1;have ht:=rK A f v;have hl:=hcs.1;rw [Xg];by_cases G:(outs A f A.length v).length=0
             . rw [if_pos G,G,hR.load (by omega)];rw [List.length_eq_zero_iff.1 G];rfl
             . rw [if_neg G,hR.load (by omega)];congr 1;refine Xt fun r=>?_;have e4:(outs A f A.length v).flatMap bK=(outs A f A.length v).map fun x=>.int .i64 (x:Nat):=(by rw [XN,List.map_eq_flatMap,XN];rfl);rw [e4,Xp,List.getElem?_take,List.getElem?_drop];by_cases hr:r<(outs A f A.length v).length
               . rw [if_pos hr,hcs.2 v r _ I (Xo hr),Xo hr];rfl
               . rw [if_neg hr,XO (by omega)];rfl
         . exact⟨XR _,⟨_,fill_zero,S⟩,by simp [aB,r0,r1,ah,r8]⟩
     . exact⟨XR _,S,by simp [aB,r0,r1,ah,start,r4]⟩
 . exact⟨XR _,S,by simp [aB,cG,dr,ah]⟩
theorem of_ok(E:OZ h0){q:Gra}(d:kQ q){s t:Value}(u:dQ h0 r s t q)(w:m<=h0.n)(F: ∀c,aq r c\/aq s c\/aq t c->m<=c):
 Ret zM 79 [jh q r s t] h0 fun v h'=>Gr h0 h'/\aS h' m v q:=by
 have S:=Si E;refine aa (n:=20) (rs:=[.tmp 2]) rfl Tryz.e79 rfl rfl rfl (lbt rfl) ?_;simp only [BZ,jh,seval];refine ac (aV (by intro x e;cases e)) S ?_;clear S;intro h b S G;simp only [ae]at S;simp only [BZ,Xu,Xq,Xv,S.lds (b:=b) (o:=0) (n:=4) m0 (lbt rfl),seval];refine ac (aV (by intro x e;cases e)) S ?_;clear S;intro h l S p;simp only [ae]at S;simp only [BZ,seval];have H:=S.fr.n;have y:=(S.row (b:=l) m0).lt S.ok;refine step_ret (of1_ok S.ok d (S.row m1) (u.gr S.gr) of2_key (fun a z=>(d.arcs a z).1)) ?_;intro B h ⟨g,f⟩;replace S:=S.call g;clear g;simp only [BZ,seval];have I:=S.fr.n;have A:=(S.row (b:=l) m0).lt S.ok;refine step_ret (of1_ok S.ok d (S.row m1) (u.gr S.gr) of3_key (fun a z=>(d.arcs a z).2.1)) ?_;intro v h ⟨g,k⟩;replace S:=S.call g;replace f:=f.gr g;clear g;have J:Fl v:=by obtain⟨_,_,rfl,_⟩:=k;exact aU
 have K:Fl B:=by obtain⟨_,_,rfl,_⟩:=f;exact aU
 simp only [BZ,seval];have C: ∀c,c=l->c<_:=fun c e=>e▸y;have D: ∀c,c=l->c<_:=fun c e=>e▸A;refine aC (aE S (i:=0) rfl ?_ ?_ ?_ ono) ?_
 . exact(by simp only [FA0])
 . exact(by assumption)
 . exact Xe (lbt rfl)
 clear S;rintro h ⟨S,j⟩;replace f:=f.mo j C;replace k:=k.mo j D;clear j;simp only [LC,ae,lay,Xb,Xc,seval]at S;simp only [BZ,seval];refine aC (aE S (i:=0) rfl ?_ ?_ ?_ ono) ?_
 . exact(by simp only [FA0])
 . exact(by assumption)
 . exact Xe (lbt rfl)
 clear S;rintro h ⟨S,j⟩;replace f:=f.mo j C;replace k:=k.mo j D;clear j;simp only [LC,ae,lay,Xb,Xc,seval]at S;simp only [BZ,ab,seval];exact⟨S.gr,l,r,s,t,B,v,rfl,S.row m0,u.gr S.gr,f.low (Xl w H),k.low (Xl w I),Xl w p,F⟩
theorem netNew_ok(l:OZ h0){d:Gra}(a:kQ d){i j:Value}(k:dQ h0 f i j d):
 Ret zM 32 [jh d f i j] h0 fun r h'=> ∃v,r=.tuple #[v,.nilIface]/\Gr h0 h'/\aS h' h0.n v d:=by
 have S:=Si l;refine aa (n:=17) (rs:=[.tmp 2,.tmp 3]) rfl Tryz.e32 rfl rfl rfl (lbt rfl) ?_;simp only [BZ,jh,seval];refine ac (aV (by intro x e;cases e)) S ?_;clear S;intro h b S p;simp only [ae]at S;simp only [BZ,Xu,Xq,Xv,S.lds (b:=b) (o:=0) (n:=4) m0 (lbt rfl),seval];refine ag (check_ok S.ok a (k.gr S.gr)) ?_;intro h g;replace S:=S.call g;clear g;simp only [BZ,Xu,Xq,Xv,S.lds (b:=b) (o:=0) (n:=4) m0 (lbt rfl),seval];have q:=S.fr.n;refine step_ret (own_ok S.ok a (k.gr S.gr)) ?_;intro v h ⟨g,vx',vy',va',s,ga',hz,_⟩;replace S:=S.call g;clear g;subst s;simp only [BZ,seval];refine step_ret (of_ok S.ok a ga' (m:=h0.n) S.fr.n (fun c t=>Xl q (hz c t))) ?_;intro v h ⟨g,R⟩;replace S:=S.call g;clear g;simp only [BZ,ab,seval];exact⟨_,rfl,S.gr,R⟩
structure Hd where
 id:Nat
 key:Int
deriving Inhabited,DecidableEq
def hle(a b:Hd):Prop:=a.key<b.key\/(a.key=b.key/\a.id<=b.id)
def hlt(a b:Hd):Prop:=a.key<b.key\/(a.key=b.key/\a.id<b.id)
instance (a b:Hd):Decidable (hlt a b):=by unfold hlt;infer_instance
theorem yV{a b:Hd}(h: ¬hlt a b):hle b a:=by unfold hlt at h;unfold hle;omega
theorem uK{a b:Hd}(h:hlt a b):hle a b:=by unfold hlt at h;unfold hle;omega
theorem mi{a b c:Hd}(h:hle a b)(k:hle b c):hle a c:=by unfold hle at*;omega
theorem xu(a:Hd):hle a a:=by unfold hle;omega
def sw(l:List Hd)(i k:Nat):List Hd:=(l.set i (l.getD k default)).set k (l.getD i default)
theorem i6(l:List Hd)(i k:Nat):(sw l i k).length=l.length:=by simp [sw]
theorem rf(l:List Hd)(i j:Nat)(x:Hd):(l.set i x).getD j default=if i=j/\j<l.length then x else l.getD j default:=by grind
theorem jI(l:List Hd)(a:i<l.length)(b:k<l.length)(j:Nat):(sw l i k).getD j default=if j=k then l.getD i default else if j=i then l.getD k default else l.getD j default:=by unfold sw;grind
theorem vu(l:List Hd)(a:i<l.length)(b:k<l.length):(sw l i k).Perm l:=by grind[set,List.set_set_perm,sw,default]
def oJ(l:List Hd):Prop:= ∀j,0<j->j<l.length->hle (l.getD ((j-1)/4) default) (l.getD j default)
def tB(l:List Hd)(i:Nat):Prop:=(∀j,0<j->j<l.length->j≠i->hle (l.getD ((j-1)/4) default) (l.getD j default))/\ ∀j,0<j->j<l.length->(j-1)/4=i->0<i->hle (l.getD ((i-1)/4) default) (l.getD j default)
theorem up_done{l:List Hd}(h:tB l i)(c:i=0\/hle (l.getD ((i-1)/4) default) (l.getD i default)):oJ l:=by
 intro j a b;by_cases e:j=i
 . grind
 . exact h.1 j a b e
theorem up_step{l:List Hd}(e:i<l.length)(h:tB l i)(h0:0<i)(m:hlt (l.getD i default) (l.getD ((i-1)/4) default)):tB (sw l i ((i-1)/4)) ((i-1)/4):=by
 have c:(i-1)/4<l.length:=by omega
 generalize f:(i-1)/4=p at*
 have s:p<i:=by omega
 refine⟨fun j d a n=>?_,fun j d a n o=>?_⟩
 . rw [i6]at a;rw [jI l e c,jI l e c,if_neg n];by_cases b:j=i
   . subst b;rw [f,if_pos rfl,if_pos rfl];exact uK m
   . rw [if_neg b];by_cases g:(j-1)/4=p
     . rw [if_pos g];have:=h.1 j d a b;rw [g]at this;exact mi (uK m) this
     . rw [if_neg g];by_cases k:(j-1)/4=i
       . rw [if_pos k];have:=h.2 j d a k h0;grind
       . rw [if_neg k];exact h.1 j d a b
 . rw [i6]at a;have q: ¬(p-1)/4=p:=(by omega);have r: ¬(p-1)/4=i:=(by omega);rw [jI l e c,jI l e c,if_neg q,if_neg r,if_neg (show¬j=p by omega)];have t:=h.1 p o c (by omega);by_cases b:j=i
   . grind
   . rw [if_neg b];have:=h.1 j d a b;grind[mi]
def we(l:List Hd)(i:Nat):Prop:=(∀j,0<j->j<l.length->(j-1)/4≠i->hle (l.getD ((j-1)/4) default) (l.getD j default))/\ ∀j,0<j->j<l.length->(j-1)/4=i->0<i->hle (l.getD ((i-1)/4) default) (l.getD j default)
theorem dn_done{l:List Hd}(h:we l i)(c: ∀j,0<j->j<l.length->(j-1)/4=i->hle (l.getD i default) (l.getD j default)):oJ l:=by
 intro j a b;by_cases e:(j-1)/4=i
 . grind
 . exact h.1 j a b e
theorem dn_step{l:List Hd}(h:we l i)(b0:0<b)(a:b<l.length)(m:(b-1)/4=i)(o:hlt (l.getD b default) (l.getD i default))(p: ∀j,0<j->j<l.length->(j-1)/4=i->hle (l.getD b default) (l.getD j default)):we (sw l i b) b:=by
 have d:i<l.length:=by omega
 refine⟨fun j e c f=>?_,fun j e c f _=>?_⟩
 . rw [i6]at c;rw [jI l d a,jI l d a,if_neg f];by_cases g:(j-1)/4=i
   . rw [if_pos g];by_cases k:j=b
     . rw [if_pos k];exact uK o
     grind
   . rw [if_neg g];by_cases k:j=b
     . omega
     . rw [if_neg k];by_cases n:j=i
       . subst n;rw [if_pos rfl];exact h.2 b b0 a m e
       . rw [if_neg n];exact h.1 j e c g
 . rw [i6]at c;rw [jI l d a,jI l d a,m,if_neg (show¬i=b by omega),if_pos rfl,if_neg (show¬j=b by omega),if_neg (show¬j=i by omega)];have:=h.1 j e c (by omega);rwa [f]at this
theorem BK{l:List Hd}(h:oJ l): ∀j,j<l.length->hle (l.getD 0 default) (l.getD j default):=by
 intro j
 induction j using Nat.strongRecOn with
 | _ j a=>
   intro b;by_cases e:j=0
   . subst e;exact xu _
   . exact mi (a ((j-1)/4) (by omega) (by omega)) (h j (by omega) b)
theorem pN(l m:List Hd)(a:j<l.length):(l++m).getD j default=l.getD j default:=by grind
theorem Aj{l:List Hd}(h:oJ l)(x:Hd):tB (l++[x]) l.length:=by
 refine⟨fun j a b c=>?_,fun j a b c _=>?_⟩
 . simp at b;rw [pN l _ (by omega),pN l _ (by omega)];exact h j a (by omega)
 grind
theorem Eh{l:List Hd}(h:oJ l){x:Hd}(k:hle x (l.getD i default)):tB (l.set i x) i:=by
 refine⟨fun j b a c=>?_,fun j b a c f=>?_⟩
 . rw [XJ]at a;rw [rf,rf,if_neg (show¬(i=j/\_)from fun e=>c e.1.symm)]
   split
   . rename_i e;have:=h j b a;grind[mi]
   . exact h j b a
 . rw [XJ]at a;rw [rf,rf,if_neg (show¬(i=j/\_) by omega),if_neg (show¬(i=(i-1)/4/\_) by omega)];have g:=h i f (by omega);have d:=h j b a;rw [c]at d;exact mi g d
theorem getD_take(l:List Hd)(a:j<n):(l.take n).getD j default=l.getD j default:=by grind
theorem heap_pop{l:List Hd}(h:oJ l)(d:0<l.length):we ((sw l 0 (l.length-1)).take (l.length-1)) 0:=by
 refine⟨fun j a b c=>?_,fun j a b c e=>?_⟩
 . rw [List.length_take,i6]at b;rw [getD_take _ (by omega),getD_take _ (by omega),jI l (by omega) (by omega),jI l (by omega) (by omega),if_neg (by omega),if_neg (by omega),if_neg (by omega),if_neg (by omega)];exact h j a (by omega)
 . omega
def i9(l:List Hd)(K:Nat->Option Int):Prop:=(l.map Hd.id).Nodup/\ ∀v k,K v=some k↔⟨v,k⟩∈l
def dp(K:Nat->Option Int)(v:Nat)(x:Option Int):Nat->Option Int:=fun u=>if u=v then x else K u
theorem i9.perm{l m:List Hd}(h:i9 l K)(p:m.Perm l):i9 m K:=
 ⟨(p.map Hd.id).nodup_iff.2 h.1,fun v k=>by rw [h.2];grind⟩
theorem i9.free{l:List Hd}(h:i9 l K)(c:K v=none):v∉l.map Hd.id:=by intro a;obtain⟨x,b,rfl⟩:=List.mem_map.1 a;have:=(h.2 x.id x.key).2 b;grind
theorem i9.push{l:List Hd}(h:i9 l K)(d:K v=none)(k:Int):i9 (l++[⟨v,k⟩]) (dp K v (some k)):=by
 refine⟨?_,fun u x=>?_⟩
 . rw [List.map_append,XG];exact⟨h.1,by simp,fun a f b g e=>h.free d (by grind)⟩
 . unfold dp;by_cases e:u=v
   . subst e;rw [if_pos rfl,List.mem_append];constructor
     . grind
     . rintro(c|c)
       . have:=(h.2 u x).2 c;grind
       grind
   . rw [if_neg e,List.mem_append,h.2];grind
theorem nodup_idx{l:List Hd}(h:(l.map Hd.id).Nodup)(a:i<l.length)(b:j<l.length)(e:(l.getD i default).id=(l.getD j default).id):i=j:=by refine qk h (x:=(l.getD i default).id) (by simp [a]) ?_;grind
theorem i9.lower{l:List Hd}(h:i9 l K)(f:i<l.length)(k:Int):i9 (l.set i ⟨(l.getD i default).id,k⟩) (dp K (l.getD i default).id (some k)):=by
 have g:(l.set i ⟨(l.getD i default).id,k⟩).map Hd.id=l.map Hd.id:=by rw [List.map_set];refine Xt fun j=>?_;grind
 refine⟨by rw [g];exact h.1,fun u x=>?_⟩;unfold dp;by_cases e:u=(l.getD i default).id
 . rw [if_pos e];constructor
   . intro m;cases m;subst e;exact List.mem_iff_getElem?.2 ⟨i,by simp [f]⟩
   . intro b;obtain⟨j,a⟩:=List.mem_iff_getElem?.1 b;rw [XF]at a
     split at a
     . cases a;rfl
     . rename_i c;have d:=(List.getElem?_eq_some_iff.1 a).1;exact absurd (nodup_idx h.1 f d (by grind)) c
 . rw [if_neg e,h.2];constructor
   . intro b;obtain⟨j,a⟩:=List.mem_iff_getElem?.1 b;refine List.mem_iff_getElem?.2 ⟨j,?_⟩;grind
   grind
theorem i9.pop{l:List Hd}(h:i9 l K)(b:0<l.length):i9 ((sw l 0 (l.length-1)).take (l.length-1)) (dp K (l.getD 0 default).id none):=by
 have p:=vu l (i:=0) (k:=l.length-1) b (by omega);have c:=h.perm p;have e:sw l 0 (l.length-1)=(sw l 0 (l.length-1)).take (l.length-1)++[l.getD 0 default]:=by refine Xt fun j=>?_;have g:=jI l (i:=0) (k:=l.length-1) b (by omega) (l.length-1);rw [if_pos rfl]at g;grind[i6,Xj,List.getElem?_take_of_lt,Xi,XO]
 generalize(sw l 0 (l.length-1)).take (l.length-1)=m at*
 generalize l.getD 0 default=x at*
 rw [e]at c;obtain⟨a,o⟩:=c;rw [List.map_append,XG]at a;refine⟨a.1,fun v k=>?_⟩;unfold dp;by_cases d:v=x.id
 . rw [if_pos d];constructor
   . intro h;cases h
   . intro n;exact absurd d (a.2.2 v (List.mem_map_of_mem (f:=Hd.id) n) x.id (by simp))
 grind
theorem i9.at{l:List Hd}(h:i9 l K)(a:i<l.length):K (l.getD i default).id=some (l.getD i default).key:=
 (h.2 _ _).2 (List.mem_iff_getElem?.2 ⟨i,by simp [a]⟩)
theorem i9.idx{l:List Hd}(h:i9 l K){k:Int}(a:K v=some k): ∃i,i<l.length/\l.getD i default=⟨v,k⟩:=by obtain⟨i,b⟩:=List.mem_iff_getElem?.1 ((h.2 v k).1 a);grind
theorem i9.nil(h:i9 [] K)(v:Nat):K v=none:=by
 cases a:K v with
 |none=>rfl|some k=>have:=(h.2 v k).1 a;cases this
theorem cont_nil:i9 [] (fun _=>none):=⟨.nil,fun v k=>by grind⟩
def FAR:Nat:=72057594037927936
def cH:Nat:=2147483647
theorem gQ:FAR=72057594037927936:=rfl
theorem jP:cH=2147483647:=rfl
inductive Wk(B:List Arc)(s:Nat):Nat->Nat->Prop where
 |nil:Wk B s s 0
 |snoc {w:Nat} {a:Arc}:a∈B->Wk B s a.s w->Wk B s a.t (w+a.w)
def IsD(B:List Arc)(s v x:Nat):Prop:=(x<FAR/\Wk B s v x/\ ∀w,Wk B s v w->x<=w)\/(x=FAR/\ ∀w,¬Wk B s v w)
theorem IsD.uniq{B:List Arc}{y:Nat}(h:IsD B s v x)(k:IsD B s v y):x=y:=by
 rcases h with⟨a,b,c⟩|⟨a,b⟩<;>rcases k with⟨d,e,f⟩|⟨d,e⟩
 . have:=c _ e;have:=f _ b;omega
 . exact absurd b (e _)
 . exact absurd e (b _)
 . omega
theorem IsD.le{B:List Arc}(h:IsD B s v x):x<=FAR:=by rcases h with⟨a,_,_⟩|⟨a,_⟩<;>omega
theorem re: ∀(N:Nat) (l:List Nat),l.Nodup->(∀x∈l,x<N)->l.length<=N
 | 0,l,_,h=>by
   cases l with
   |nil=>simp|cons x l=>have:=h x (by simp);omega
 | N+1,l,b,h=>by
   have f:=re N (l.erase N) (b.erase N) (fun x c=>by
    have d:=h x (List.mem_of_mem_erase c);have g:x≠N:=fun e=>(by subst e;exact(List.Nodup.not_mem_erase b) c);omega)
   have d:=List.length_erase (a:=N) (l:=l)
   split at d<;>omega
section
variable{B:List Arc}{s N:Nat}{O:List Nat}{D:Nat->Nat}{K:Nat->Option Int}{ex:Arc->Prop}
structure Dj(B:List Arc)(s N:Nat)(O:List Nat)(D:Nat->Nat)(K:Nat->Option Int)(ex:Arc->Prop):Prop where
 i1: ∀v,v∈O->K v=none
 i2: ∀v∈O,Wk B s v (D v)/\(∀w,Wk B s v w->D v<=w)/\D v<=O.length*cH
 i2f: ∀v,v∉O->D v=FAR
 i3: ∀v k,K v=some k->v<N/\ ∃n:Nat,k=n/\Wk B s v n/\n<=O.length*cH
 i4: ∀a∈B,a.s∈O-> ¬ex a->a.t∈O\/ ∃k:Int,K a.t=some k/\k<=D a.s+a.w
 i5:s∈O\/K s=some 0
 nd:O.Nodup
 lt: ∀v∈O,v<N
theorem Dj.len(d:Dj B s N O D K ex):O.length<=N:=re N O d.nd d.lt
theorem dj_init(b:s<N):Dj B s N [] (fun _=>FAR) (dp (fun _=>none) s (some 0)) (fun _=>False):=by
 refine⟨fun v h=>(by cases h),fun v h=>(by cases h),fun v _=>rfl,fun v k h=>?_,fun a _ h=>(by cases h),.inr (by simp [dp]),.nil,fun v h=>(by cases h)⟩;unfold dp at h
 split at h
 . rename_i e;cases h;subst e;exact⟨b,0,rfl,.nil,by simp⟩
 . cases h
theorem Dj.front(d:Dj B s N O D K (fun _=>False)){w:Nat}(h:Wk B s x w):x∈O\/ ∃y k,K y=some k/\k<=(w:Int):=by
 induction h with
 |nil=>exact d.i5.imp (fun h=>h) (fun h=>⟨_,_,h,by omega⟩)
 | @snoc w a e f b=>
   rcases b with b|⟨y,k,c,g⟩
   . rcases d.i4 a e b (fun h=>h)with h|⟨k,c,g⟩
     . exact .inl h
     . have:=(d.i2 _ b).2.1 _ f;exact .inr ⟨_,k,c,by omega⟩
   . exact .inr ⟨y,k,c,by omega⟩
theorem Dj.pop(d:Dj B s N O D K (fun _=>False))(q:K v=some (n:Int))(A: ∀u k,K u=some k->(n:Int)<=k):
 Dj B s N (O++[v]) (fun u=>if u=v then n else D u) (dp K v none) (fun a=>a.s=v)/\v∉O/\v<N/\n<=O.length*cH:=by
 have g:v∉O:=fun h=>by have:=d.i1 v h;rw [q]at this;cases this
 obtain⟨i,C,e,E,l⟩:=d.i3 v _ q;have e:n=C:=by omega
 subst e;have r:(O++[v]).length*cH=O.length*cH+cH:=by rw [Xr,XM,Nat.succ_mul]
 refine⟨⟨fun u f=>?_,fun u f=>?_,fun u f=>?_,fun u k f=>?_,fun a o t x=>?_,?_,?_,fun u f=>?_⟩,g,i,l⟩
 . unfold dp;by_cases e:u=v
   . rw [if_pos e]
   . rw [if_neg e];simp [e]at f;exact d.i1 u f
 . rw [r];by_cases e:u=v
   . subst e;simp only [if_true];refine⟨E,fun w h=>?_,by omega⟩;rcases d.front h with j|⟨y,k,j,z⟩
     . exact absurd j g
     . have:=A y k j;omega
   . simp only [e,if_false];simp [e]at f;obtain⟨a,b,c⟩:=d.i2 u f;exact⟨a,b,by omega⟩
 . simp at f;simp only [f.2,if_false];exact d.i2f u f.1
 . unfold dp at f
   split at f
   . cases f
   . obtain⟨a,m,b,c,e⟩:=d.i3 u k f;exact⟨a,m,b,c,by rw [r];omega⟩
 . simp [x]at t;have p: ¬a.s=v:=x;simp only [p,if_false];rcases d.i4 a o t (fun h=>h)with h|⟨k,j,z⟩
   . exact .inl (by simp [h])
   . by_cases e:a.t=v
     . exact .inl (by simp [e])
     . exact .inr ⟨k,by unfold dp;rw [if_neg e];exact j,z⟩
 . rcases d.i5 with h|h
   . exact .inl (by simp [h])
   . by_cases e:s=v
     . exact .inl (by simp [e])
     . exact .inr (by unfold dp;rw [if_neg e];exact h)
 . rw [XG];exact⟨d.nd,by simp,fun a o b l e=>g (by simp at l;subst l;subst e;exact o)⟩
 . rcases List.mem_append.1 f with h|h
   . exact d.lt u h
   . simp at h;subst h;exact i
def jN(O:List Nat)(K:Nat->Option Int)(u:Nat)(x:Int):Nat->Option Int:=if u∈O then K else match K u with
 |some k=>if k<=x then K else dp K u (some x)
 |none=>dp K u (some x)
theorem Dj.relaxed (d:Dj B s N O D K ex) {ex':Arc->Prop} {a:Arc} (t:a∈B) (u:a.s∈O) (w:a.t<N) (m:D a.s+a.w<=O.length*cH) (x: ∀b∈B,¬ex' b-> ¬ex b\/b=a):
 Dj B s N O D (jN O K a.t ((D a.s+a.w:Nat):Int)) ex':=by
 have f: ∀i,(∀v,v∈O->i v=K v)->(∀v k,i v=some k->K v=some k\/(v=a.t/\k=((D a.s+a.w:Nat):Int)))->(∀v k,K v=some k-> ∃j,i v=some j/\j<=k)->(a.t∈O\/ ∃k:Int,i a.t=some k/\k<=D a.s+a.w)->Dj B s N O D i ex':=by
  intro i y q r z;refine⟨fun v c=>by rw [y v c];exact d.i1 v c,d.i2,d.i2f,fun v k g=>?_,fun b m n o=>?_,?_,d.nd,d.lt⟩
  . rcases q v k g with h|⟨rfl,rfl⟩
    . exact d.i3 v k h
    . exact⟨w,_,rfl,.snoc t (d.i2 _ u).1,m⟩
  . rcases x b m o with h|rfl
    . rcases d.i4 b m n h with h|⟨k,A,E⟩
      . exact .inl h
      . obtain⟨j,l,C⟩:=r _ _ A;exact .inr ⟨j,l,by omega⟩
    . exact z
  . rcases d.i5 with h|h
    . exact .inl h
    . obtain⟨j,l,C⟩:=r _ _ h;rcases q _ _ l with p|⟨p,F⟩
      . rw [h]at p;exact .inr (by rw [l,p])
      . exact .inr (by rw [l];congr 1;omega)
 unfold jN;by_cases h:a.t∈O
 . rw [if_pos h];exact f K (fun _ _=>rfl) (fun _ _ h=>.inl h) (fun v k h=>⟨k,h,by omega⟩) (.inl h)
 . rw [if_neg h];have upd:(∀k,K a.t=some k->((D a.s+a.w:Nat):Int)<=k)->Dj B s N O D (dp K a.t (some ((D a.s+a.w:Nat):Int))) ex':=fun g=>by
    refine f _ (fun v c=>?_) (fun v k c=>?_) (fun v k c=>?_) (.inr ⟨((D a.s+a.w:Nat):Int),by unfold dp;rw [if_pos rfl],by omega⟩)
    . unfold dp;rw [if_neg (fun e=>h (by subst e;exact c))]
    . unfold dp at c
      split at c
      . rename_i e;cases c;exact .inr ⟨e,rfl⟩
      . exact .inl c
    . unfold dp;by_cases e:v=a.t
      . rw [if_pos e];subst e;exact⟨_,rfl,g k c⟩
      . rw [if_neg e];exact⟨k,c,by omega⟩
   cases g:K a.t with
   |none=>simp only [];exact upd (fun k e=>by rw [g]at e;cases e)
   | some k=>
     simp only []
     split
     . rename_i hle;exact f K (fun _ _=>rfl) (fun _ _ h=>.inl h) (fun v k h=>⟨k,h,by omega⟩) (.inr ⟨k,g,by omega⟩)
     . rename_i hle;exact upd (fun j e=>by rw [g]at e;cases e;omega)
theorem Dj.done(d:Dj B s N O D K (fun _=>False))(f: ∀v,K v=none)(g:N<=12)(v:Nat):IsD B s v (D v):=by
 have j:=Nat.mul_le_mul_right cH (Xl d.len g);have:=gQ;have:=jP;by_cases h:v∈O
 . obtain⟨a,b,c⟩:=d.i2 v h;exact .inl ⟨by omega,a,b⟩
 . refine .inr ⟨d.i2f v h,fun w i=>?_⟩;rcases d.front i with e|⟨y,k,e,_⟩
   . exact h e
   . rw [f]at e;cases e
end
theorem mg{A:List Arc}{f:Arc->Nat}:i∈outs A f j v↔i<j/\f (A.getD i default)=v:=by unfold outs;rw [List.mem_filter,XK,decide_eq_true_eq]
def dz(a:Arc):Arc:=⟨a.t,a.s,a.w⟩
structure Ls(B:List Arc)(s N:Nat)(l:Nat->Nat):Prop where
 le: ∀v,l v<=FAR
 wk: ∀v,l v=FAR\/Wk B s v (l v)
 s0:l s=0
def dU(l:Nat->Nat)(v x:Nat):Nat->Nat:=fun u=>if u=v then x else l u
end Go.Ab

/- Nets, cells, flags: what the functions do (part 1). -/
import Derived.Test.YtnandelhggbchaaGreatDoorEnv
open Go.Ab.Tryz
open Go.Ab.Tryz renaming abEnv->zM
open List renaming getD_eq_getElem?_getD->zN,range->Xa,take->Xc,drop->Xd,getElem?_append_left->Xh,getElem?_append_right->Xj,getElem?_set->Xn,flatMap_append->Xo,length_append->Xp,getElem?_eq_getElem->Xq,mem_of_getElem?->Xr,getElem?_map->Xs,take_succ_cons->Xt,ext_getElem?->Xv,drop_zero->Xw,take_zero->Xx,getElem_mem->Xz,length_cons->XA,length_flatMap->XD,map_const'->XE,getElem?_eq_none->XG,append_nil->XH,length_set->XI,nodup_append->XJ,filter_cons->XL,getElem?_take_of_lt->XM,range_succ->XN,mem_append->XO,mem_range->XP,length_filter_le->XQ,length_singleton->XR,flatMap_eq_foldl->XS,getElem?_append->XT,drop_succ_cons->XU
open And renaming intro->Xb
open Nat renaming lt_of_succ_le->Xe,zero_add->Xf,mul_one->Xg,zero_mul->Xi,le_trans->Xl,one_mul->Xm,ble_eq_true_of_le->Xy,le_refl->XC,zero_le->XV
open Int renaming cast_ofNat_Int->Xk,tmod_eq_emod_of_nonneg->XB,toNat_natCast->XF
open Bool renaming and_true->Xu
open Option renaming getD_some->XK
set_option maxHeartbeats 4000000
set_option linter.defProp false
set_option linter.unusedVariables false
set_option linter.unusedSimpArgs false
section
namespace Go.Ab
theorem Si{h:Hp}(a:h.t.Sized h.n):St NoM h h [] []:=St.init a
theorem aj{a b:Prop}(x:a)(y:b):a/\b:=⟨x,y⟩
set_option linter.defProp false in
def LC:=Xb @List.set_cons_zero.{0}<|Xb @List.set_cons_succ.{0}<|Xb @List.cons_append.{0}<|Xb @List.nil_append.{0}<|Xb @List.append_nil.{0}<|Xb @List.length_cons.{0}<|Xb @List.length_nil.{0}<|@Nat.add_zero
theorem lbt{a b:Nat}(h:Nat.ble a b=true):a<=b:=Nat.le_of_ble_eq_true h
theorem ono:(1:Nat)≠0:=Nat.one_ne_zero
set_option linter.defProp false in
def LB:=Xb @if_true.{1}<|Xb @if_false.{1}<|Xb @eq_self.{1}<|Xb @List.map_cons.{0,0}<|Xb @List.map_nil.{0,0}<|Xb @List.append_nil.{0}<|Xb @List.nil_append.{0}<|Xb @List.cons_append.{0}<|Xb @List.getElem?_cons_zero.{0}<|Xb @List.getElem?_cons_succ.{0}<|Xb @List.set_cons_zero.{0}<|Xb @List.set_cons_succ.{0}<|Xb @List.length_cons.{0}<|Xb @List.length_nil.{0}<|Xb @Nat.add_zero<|Xb @Nat.zero_add<|Xb @Nat.mul_one<|Xb @Nat.zero_mul<|Xb @cond_true.{1}<|Xb @cond_false.{1}<|Xb @decide_true<|Xb @decide_false<|Xb @Bool.and_true<|Xb @Bool.and_false<|Xb @Bool.not_false<|Xb @Bool.not_true<|Xb @true_and<|Xb @and_true<|Xb @Option.isSome_some.{0}<|@List.map_toArray.{0,0}
open Go.Proofs
namespace Tryz
abbrev TQ0(i:TypeId)(A:Bool)(S:Nat)(Z:List Value):Prop:=zM.agg i=some A/\zM.sz i=some S/\zM.zero i=some Z/\dw zM i=some false
theorem kTQ0{i:TypeId}{A:Bool}{S:Nat}{Z:List Value}(h:(zM.agg i,zM.sz i,zM.zero i,dw zM i)=(some A,some S,some Z,some false)):TQ0 i A S Z:=by simpa only [Prod.mk.injEq]using h
abbrev TQ1(i:TypeId)(U:TypeDesc)(A:Bool)(S:Nat)(Z:List Value):Prop:=zM.und i=some U/\zM.agg i=some A/\zM.sz i=some S/\zM.zero i=some Z/\jD zM i=true
theorem kTQ1{i:TypeId}{U:TypeDesc}{A:Bool}{S:Nat}{Z:List Value}(h:(zM.und i,zM.agg i,zM.sz i,zM.zero i,jD zM i)=(some U,some A,some S,some Z,true)):TQ1 i U A S Z:=by simpa only [Prod.mk.injEq]using h
abbrev TQ2(i:TypeId)(U:TypeDesc)(A:Bool)(S:Nat)(Z:List Value):Prop:=zM.und i=some U/\zM.agg i=some A/\zM.sz i=some S/\zM.zero i=some Z/\dw zM i=some false
theorem kTQ2{i:TypeId}{U:TypeDesc}{A:Bool}{S:Nat}{Z:List Value}(h:(zM.und i,zM.agg i,zM.sz i,zM.zero i,dw zM i)=(some U,some A,some S,some Z,some false)):TQ2 i U A S Z:=by simpa only [Prod.mk.injEq]using h
abbrev TQ3(i:TypeId)(A:Bool)(S:Nat)(Z:List Value)(P:List (Nat×Nat)):Prop:=zM.agg i=some A/\zM.sz i=some S/\zM.zero i=some Z/\jD zM i=true/\dw zM i=some false/\placesOf zM i=some P
theorem kTQ3{i:TypeId}{A:Bool}{S:Nat}{Z:List Value}{P:List (Nat×Nat)}(h:(zM.agg i,zM.sz i,zM.zero i,jD zM i,dw zM i,placesOf zM i)=(some A,some S,some Z,true,some false,some P)):TQ3 i A S Z P:=by simpa only [Prod.mk.injEq]using h
abbrev TQ4(i:TypeId)(U:TypeDesc)(A:Bool)(S:Nat)(Z:List Value):Prop:=zM.und i=some U/\zM.agg i=some A/\zM.sz i=some S/\zM.zero i=some Z/\ow zM i=true/\jD zM i=true/\dw zM i=some false
theorem kTQ4{i:TypeId}{U:TypeDesc}{A:Bool}{S:Nat}{Z:List Value}(h:(zM.und i,zM.agg i,zM.sz i,zM.zero i,ow zM i,jD zM i,dw zM i)=(some U,some A,some S,some Z,true,true,some false)):TQ4 i U A S Z:=by simpa only [Prod.mk.injEq]using h
abbrev TQ5(i:TypeId)(A:Bool)(S:Nat)(Z:List Value):Prop:=zM.agg i=some A/\zM.sz i=some S/\zM.zero i=some Z/\isIface zM i=true/\dw zM i=some false
theorem kTQ5{i:TypeId}{A:Bool}{S:Nat}{Z:List Value}(h:(zM.agg i,zM.sz i,zM.zero i,isIface zM i,dw zM i)=(some A,some S,some Z,true,some false)):TQ5 i A S Z:=by simpa only [Prod.mk.injEq]using h
abbrev TQ6(i:TypeId)(U:TypeDesc)(A:Bool)(S:Nat)(Z:List Value):Prop:=zM.und i=some U/\zM.agg i=some A/\zM.sz i=some S/\zM.zero i=some Z/\isSl zM i=true/\dw zM i=some false
theorem kTQ6{i:TypeId}{U:TypeDesc}{A:Bool}{S:Nat}{Z:List Value}(h:(zM.und i,zM.agg i,zM.sz i,zM.zero i,isSl zM i,dw zM i)=(some U,some A,some S,some Z,true,some false)):TQ6 i U A S Z:=by simpa only [Prod.mk.injEq]using h
abbrev TQ7(i:TypeId)(A:Bool)(S:Nat)(Z:List Value):Prop:=zM.agg i=some A/\zM.sz i=some S/\zM.zero i=some Z/\jD zM i=true/\dw zM i=some false
theorem kTQ7{i:TypeId}{A:Bool}{S:Nat}{Z:List Value}(h:(zM.agg i,zM.sz i,zM.zero i,jD zM i,dw zM i)=(some A,some S,some Z,true,some false)):TQ7 i A S Z:=by simpa only [Prod.mk.injEq]using h
abbrev TR0(i:TypeId)(f o1 o2 o3:Nat):Prop:=(∀(b o:Nat) (s:Option Nat),aw zM i (.pointer (some ⟨b,o,s⟩)) 0=some (.pointer (some ⟨b,o+f,none⟩))/\aw zM i (.pointer (some ⟨b,o,s⟩)) 1=some (.pointer (some ⟨b,o+o1,none⟩))/\aw zM i (.pointer (some ⟨b,o,s⟩)) 2=some (.pointer (some ⟨b,o+o2,none⟩))/\aw zM i (.pointer (some ⟨b,o,s⟩)) 3=some (.pointer (some ⟨b,o+o3,none⟩)))/\ ∀a c d e:Value,aM zM i (.agg ⟨[a,c,d,e]⟩) 0=some a/\aM zM i (.agg ⟨[a,c,d,e]⟩) 1=some c/\aM zM i (.agg ⟨[a,c,d,e]⟩) 2=some d/\aM zM i (.agg ⟨[a,c,d,e]⟩) 3=some e
abbrev TR1(i:TypeId)(d o1:Nat):Prop:=(∀(b o:Nat) (s:Option Nat),aw zM i (.pointer (some ⟨b,o,s⟩)) 0=some (.pointer (some ⟨b,o+d,none⟩))/\aw zM i (.pointer (some ⟨b,o,s⟩)) 1=some (.pointer (some ⟨b,o+o1,none⟩)))/\ ∀a c:Value,aM zM i (.agg ⟨[a,c]⟩) 0=some a/\aM zM i (.agg ⟨[a,c]⟩) 1=some c
abbrev TR2(i:TypeId)(c:Nat):Prop:=(∀(b o:Nat) (s:Option Nat),aw zM i (.pointer (some ⟨b,o,s⟩)) 0=some (.pointer (some ⟨b,o+c,none⟩)))/\ ∀a:Value,aM zM i (.agg ⟨[a]⟩) 0=some a
abbrev TR3(i:TypeId)(h o1 o2 o3 j k:Nat):Prop:=(∀(b o:Nat) (s:Option Nat),aw zM i (.pointer (some ⟨b,o,s⟩)) 0=some (.pointer (some ⟨b,o+h,none⟩))/\aw zM i (.pointer (some ⟨b,o,s⟩)) 1=some (.pointer (some ⟨b,o+o1,none⟩))/\aw zM i (.pointer (some ⟨b,o,s⟩)) 2=some (.pointer (some ⟨b,o+o2,none⟩))/\aw zM i (.pointer (some ⟨b,o,s⟩)) 3=some (.pointer (some ⟨b,o+o3,none⟩))/\aw zM i (.pointer (some ⟨b,o,s⟩)) 4=some (.pointer (some ⟨b,o+j,none⟩))/\aw zM i (.pointer (some ⟨b,o,s⟩)) 5=some (.pointer (some ⟨b,o+k,none⟩)))/\ ∀a c d e f g:Value,aM zM i (.agg ⟨[a,c,d,e,f,g]⟩) 0=some a/\aM zM i (.agg ⟨[a,c,d,e,f,g]⟩) 1=some c/\aM zM i (.agg ⟨[a,c,d,e,f,g]⟩) 2=some d/\aM zM i (.agg ⟨[a,c,d,e,f,g]⟩) 3=some e/\aM zM i (.agg ⟨[a,c,d,e,f,g]⟩) 4=some f/\aM zM i (.agg ⟨[a,c,d,e,f,g]⟩) 5=some g
abbrev TR4(i:TypeId)(e o1 o2:Nat):Prop:=(∀(b o:Nat) (s:Option Nat),aw zM i (.pointer (some ⟨b,o,s⟩)) 0=some (.pointer (some ⟨b,o+e,none⟩))/\aw zM i (.pointer (some ⟨b,o,s⟩)) 1=some (.pointer (some ⟨b,o+o1,none⟩))/\aw zM i (.pointer (some ⟨b,o,s⟩)) 2=some (.pointer (some ⟨b,o+o2,none⟩)))/\ ∀a c d:Value,aM zM i (.agg ⟨[a,c,d]⟩) 0=some a/\aM zM i (.agg ⟨[a,c,d]⟩) 1=some c/\aM zM i (.agg ⟨[a,c,d]⟩) 2=some d
abbrev TR5(i:TypeId)(h o1 o2:Nat):Prop:=(∀(b o:Nat) (s:Option Nat),aw zM i (.pointer (some ⟨b,o,s⟩)) 0=some (.pointer (some ⟨b,o+h,none⟩))/\aw zM i (.pointer (some ⟨b,o,s⟩)) 1=some (.pointer (some ⟨b,o+o1,none⟩))/\aw zM i (.pointer (some ⟨b,o,s⟩)) 2=some (.pointer (some ⟨b,o+o2,none⟩)))/\ ∀a c d e f g:Value,aM zM i (.agg ⟨[a,c,d,e,f,g]⟩) 0=some (.agg ⟨[a,c,d,e]⟩)/\aM zM i (.agg ⟨[a,c,d,e,f,g]⟩) 1=some f/\aM zM i (.agg ⟨[a,c,d,e,f,g]⟩) 2=some g
abbrev TR6(i:TypeId)(p o1 o2 o3 q r t u v w n:Nat):Prop:=(∀(b o:Nat) (s:Option Nat),aw zM i (.pointer (some ⟨b,o,s⟩)) 0=some (.pointer (some ⟨b,o+p,none⟩))/\aw zM i (.pointer (some ⟨b,o,s⟩)) 1=some (.pointer (some ⟨b,o+o1,none⟩))/\aw zM i (.pointer (some ⟨b,o,s⟩)) 2=some (.pointer (some ⟨b,o+o2,none⟩))/\aw zM i (.pointer (some ⟨b,o,s⟩)) 3=some (.pointer (some ⟨b,o+o3,none⟩))/\aw zM i (.pointer (some ⟨b,o,s⟩)) 4=some (.pointer (some ⟨b,o+q,none⟩))/\aw zM i (.pointer (some ⟨b,o,s⟩)) 5=some (.pointer (some ⟨b,o+r,none⟩))/\aw zM i (.pointer (some ⟨b,o,s⟩)) 6=some (.pointer (some ⟨b,o+t,none⟩))/\aw zM i (.pointer (some ⟨b,o,s⟩)) 7=some (.pointer (some ⟨b,o+u,none⟩))/\aw zM i (.pointer (some ⟨b,o,s⟩)) 8=some (.pointer (some ⟨b,o+v,none⟩))/\aw zM i (.pointer (some ⟨b,o,s⟩)) 9=some (.pointer (some ⟨b,o+w,none⟩))/\aw zM i (.pointer (some ⟨b,o,s⟩)) 10=some (.pointer (some ⟨b,o+n,none⟩)))/\ ∀c d e f g h j k l m a:Value,aM zM i (.agg ⟨[c,d,e,f,g,h,j,k,l,m,a]⟩) 0=some c/\aM zM i (.agg ⟨[c,d,e,f,g,h,j,k,l,m,a]⟩) 1=some d/\aM zM i (.agg ⟨[c,d,e,f,g,h,j,k,l,m,a]⟩) 2=some e/\aM zM i (.agg ⟨[c,d,e,f,g,h,j,k,l,m,a]⟩) 3=some f/\aM zM i (.agg ⟨[c,d,e,f,g,h,j,k,l,m,a]⟩) 4=some g/\aM zM i (.agg ⟨[c,d,e,f,g,h,j,k,l,m,a]⟩) 5=some h/\aM zM i (.agg ⟨[c,d,e,f,g,h,j,k,l,m,a]⟩) 6=some j/\aM zM i (.agg ⟨[c,d,e,f,g,h,j,k,l,m,a]⟩) 7=some k/\aM zM i (.agg ⟨[c,d,e,f,g,h,j,k,l,m,a]⟩) 8=some l/\aM zM i (.agg ⟨[c,d,e,f,g,h,j,k,l,m,a]⟩) 9=some m/\aM zM i (.agg ⟨[c,d,e,f,g,h,j,k,l,m,a]⟩) 10=some a
abbrev TR7(i:TypeId)(n o1 o2 o3 p:Nat):Prop:=(∀(b o:Nat) (s:Option Nat),aw zM i (.pointer (some ⟨b,o,s⟩)) 0=some (.pointer (some ⟨b,o+n,none⟩))/\aw zM i (.pointer (some ⟨b,o,s⟩)) 1=some (.pointer (some ⟨b,o+o1,none⟩))/\aw zM i (.pointer (some ⟨b,o,s⟩)) 2=some (.pointer (some ⟨b,o+o2,none⟩))/\aw zM i (.pointer (some ⟨b,o,s⟩)) 3=some (.pointer (some ⟨b,o+o3,none⟩))/\aw zM i (.pointer (some ⟨b,o,s⟩)) 4=some (.pointer (some ⟨b,o+p,none⟩)))/\ ∀c d e f g h j k l m a:Value,aM zM i (.agg ⟨[c,d,e,f,g,h,j,k,l,m,a]⟩) 0=some c/\aM zM i (.agg ⟨[c,d,e,f,g,h,j,k,l,m,a]⟩) 1=some (.agg ⟨[d,e,f,g]⟩)/\aM zM i (.agg ⟨[c,d,e,f,g,h,j,k,l,m,a]⟩) 2=some (.agg ⟨[h,j]⟩)/\aM zM i (.agg ⟨[c,d,e,f,g,h,j,k,l,m,a]⟩) 3=some (.agg ⟨[k,l,m]⟩)/\aM zM i (.agg ⟨[c,d,e,f,g,h,j,k,l,m,a]⟩) 4=some a
abbrev TR8(i:TypeId)(k o1 o2 o3 l m n p:Nat):Prop:=(∀(b o:Nat) (s:Option Nat),aw zM i (.pointer (some ⟨b,o,s⟩)) 0=some (.pointer (some ⟨b,o+k,none⟩))/\aw zM i (.pointer (some ⟨b,o,s⟩)) 1=some (.pointer (some ⟨b,o+o1,none⟩))/\aw zM i (.pointer (some ⟨b,o,s⟩)) 2=some (.pointer (some ⟨b,o+o2,none⟩))/\aw zM i (.pointer (some ⟨b,o,s⟩)) 3=some (.pointer (some ⟨b,o+o3,none⟩))/\aw zM i (.pointer (some ⟨b,o,s⟩)) 4=some (.pointer (some ⟨b,o+l,none⟩))/\aw zM i (.pointer (some ⟨b,o,s⟩)) 5=some (.pointer (some ⟨b,o+m,none⟩))/\aw zM i (.pointer (some ⟨b,o,s⟩)) 6=some (.pointer (some ⟨b,o+n,none⟩))/\aw zM i (.pointer (some ⟨b,o,s⟩)) 7=some (.pointer (some ⟨b,o+p,none⟩)))/\ ∀a c d e f g h j:Value,aM zM i (.agg ⟨[a,c,d,e,f,g,h,j]⟩) 0=some a/\aM zM i (.agg ⟨[a,c,d,e,f,g,h,j]⟩) 1=some c/\aM zM i (.agg ⟨[a,c,d,e,f,g,h,j]⟩) 2=some d/\aM zM i (.agg ⟨[a,c,d,e,f,g,h,j]⟩) 3=some e/\aM zM i (.agg ⟨[a,c,d,e,f,g,h,j]⟩) 4=some f/\aM zM i (.agg ⟨[a,c,d,e,f,g,h,j]⟩) 5=some g/\aM zM i (.agg ⟨[a,c,d,e,f,g,h,j]⟩) 6=some h/\aM zM i (.agg ⟨[a,c,d,e,f,g,h,j]⟩) 7=some j
abbrev TR9(i:TypeId)(e o1:Nat):Prop:=(∀(b o:Nat) (s:Option Nat),aw zM i (.pointer (some ⟨b,o,s⟩)) 0=some (.pointer (some ⟨b,o+e,none⟩))/\aw zM i (.pointer (some ⟨b,o,s⟩)) 1=some (.pointer (some ⟨b,o+o1,none⟩)))/\ ∀a c d:Value,aM zM i (.agg ⟨[a,c,d]⟩) 0=some (.agg ⟨[a,c]⟩)/\aM zM i (.agg ⟨[a,c,d]⟩) 1=some d
abbrev TR10(i:TypeId)(g o1 o2:Nat):Prop:=(∀(b o:Nat) (s:Option Nat),aw zM i (.pointer (some ⟨b,o,s⟩)) 0=some (.pointer (some ⟨b,o+g,none⟩))/\aw zM i (.pointer (some ⟨b,o,s⟩)) 1=some (.pointer (some ⟨b,o+o1,none⟩))/\aw zM i (.pointer (some ⟨b,o,s⟩)) 2=some (.pointer (some ⟨b,o+o2,none⟩)))/\ ∀a c d e f:Value,aM zM i (.agg ⟨[a,c,d,e,f]⟩) 0=some a/\aM zM i (.agg ⟨[a,c,d,e,f]⟩) 1=some (.agg ⟨[c,d,e]⟩)/\aM zM i (.agg ⟨[a,c,d,e,f]⟩) 2=some f
theorem t1:TQ0 1 false 1 [.nilFunc]:=kTQ0 (by kernel_rfl)
theorem t2:TQ1 2 (.int .i64) false 1 [.int .i64 0]:=kTQ1 (by kernel_rfl)
theorem e2E:er zM 2 8 1 [.int .i64 0]:=⟨⟨_,rfl,by kernel_rfl,by kernel_rfl⟩,t2.2.2.2.1,rfl⟩
theorem t3:TQ1 3 (.int .i64) false 1 [.int .i64 0]:=kTQ1 (by kernel_rfl)
theorem e3E:er zM 3 8 1 [.int .i64 0]:=⟨⟨_,rfl,by kernel_rfl,by kernel_rfl⟩,t3.2.2.2.1,rfl⟩
theorem t4:TQ2 4 .bool false 1 [.bool false]:=kTQ2 (by kernel_rfl)
theorem t5:TQ1 5 (.int .u8) false 1 [.int .u8 0]:=kTQ1 (by kernel_rfl)
theorem t6:TQ1 6 (.int .u8) false 1 [.int .u8 0]:=kTQ1 (by kernel_rfl)
theorem t7:TQ3 7 true 4 [.int .i64 0,.int .i64 0,.bool false,.int .u8 0] [(0,1),(1,1),(2,1),(3,1)]:=kTQ3 (by kernel_rfl)
theorem r7:TR0 7 0 1 2 3:=⟨fun _ _ _=>⟨rfl,rfl,rfl,rfl⟩,fun _ _ _ _=>⟨rfl,rfl,rfl,rfl⟩⟩
theorem t8:TQ3 8 true 4 [.int .i64 0,.int .i64 0,.bool false,.int .u8 0] [(0,1),(1,1),(2,1),(3,1)]:=kTQ3 (by kernel_rfl)
theorem r8:TR0 8 0 1 2 3:=⟨fun _ _ _=>⟨rfl,rfl,rfl,rfl⟩,fun _ _ _ _=>⟨rfl,rfl,rfl,rfl⟩⟩
theorem t9:TQ2 9 .string false 1 [.string ⟨#[]⟩]:=kTQ2 (by kernel_rfl)
theorem t10:TQ2 10 .string false 1 [.string ⟨#[]⟩]:=kTQ2 (by kernel_rfl)
theorem t11:TQ2 11 .string false 1 [.string ⟨#[]⟩]:=kTQ2 (by kernel_rfl)
theorem t12:TQ1 12 (.int .u64) false 1 [.int .u64 0]:=kTQ1 (by kernel_rfl)
theorem t13:TQ3 13 true 2 [.string ⟨#[]⟩,.int .u64 0] [(0,1),(1,1)]:=kTQ3 (by kernel_rfl)
theorem r13:TR1 13 0 1:=⟨fun _ _ _=>⟨rfl,rfl⟩,fun _ _=>⟨rfl,rfl⟩⟩
theorem t14:TQ3 14 true 2 [.string ⟨#[]⟩,.int .u64 0] [(0,1),(1,1)]:=kTQ3 (by kernel_rfl)
theorem r14:TR1 14 0 1:=⟨fun _ _ _=>⟨rfl,rfl⟩,fun _ _=>⟨rfl,rfl⟩⟩
theorem t15:TQ4 15 (.pointer 371) false 1 [.pointer none]:=kTQ4 (by kernel_rfl)
theorem t16:TQ4 16 (.pointer 374) false 1 [.pointer none]:=kTQ4 (by kernel_rfl)
theorem t17:TQ4 17 (.pointer 381) false 1 [.pointer none]:=kTQ4 (by kernel_rfl)
theorem t18:TQ3 18 true 1 [.pointer none] [(0,1)]:=kTQ3 (by kernel_rfl)
theorem r18:TR2 18 0:=⟨fun _ _ _=>rfl,fun _=>rfl⟩
theorem t19:TQ3 19 true 1 [.pointer none] [(0,1)]:=kTQ3 (by kernel_rfl)
theorem r19:TR2 19 0:=⟨fun _ _ _=>rfl,fun _=>rfl⟩
theorem t20:TQ5 20 false 1 [.nilIface]:=kTQ5 (by kernel_rfl)
theorem t21:TQ1 21 (.int .i32) false 1 [.int .i32 0]:=kTQ1 (by kernel_rfl)
theorem t22:TQ6 22 (.slice 5) false 1 [.slice none 0 0]:=kTQ6 (by kernel_rfl)
theorem t23:TQ1 23 (.int .i8) false 1 [.int .i8 0]:=kTQ1 (by kernel_rfl)
theorem t24:TQ6 24 (.slice 2) false 1 [.slice none 0 0]:=kTQ6 (by kernel_rfl)
theorem e24E:er zM 24 24 1 [.slice none 0 0]:=⟨⟨_,rfl,by kernel_rfl,by kernel_rfl⟩,t24.2.2.2.1,rfl⟩
theorem t26:TQ3 26 true 6 [.slice none 0 0,.slice none 0 0,.int .u8 0,.int .u8 0,.int .i8 0,.slice none 0 0] [(0,1),(1,1),(2,1),(3,1),(4,1),(5,1)]:=kTQ3 (by kernel_rfl)
theorem r26:TR3 26 0 1 2 3 4 5:=⟨fun _ _ _=>⟨rfl,rfl,rfl,rfl,rfl,rfl⟩,fun _ _ _ _ _ _=>⟨rfl,rfl,rfl,rfl,rfl,rfl⟩⟩
theorem t28:TQ3 28 true 4 [.int .i64 0,.int .i64 0,.int .i64 0,.int .i64 0] [(0,1),(1,1),(2,1),(3,1)]:=kTQ3 (by kernel_rfl)
theorem r28:TR0 28 0 1 2 3:=⟨fun _ _ _=>⟨rfl,rfl,rfl,rfl⟩,fun _ _ _ _=>⟨rfl,rfl,rfl,rfl⟩⟩
theorem t29:TQ6 29 (.slice 99) false 1 [.slice none 0 0]:=kTQ6 (by kernel_rfl)
theorem t31:TQ3 31 true 4 [.int .i64 0,.slice none 0 0,.slice none 0 0,.slice none 0 0] [(0,1),(1,1),(2,1),(3,1)]:=kTQ3 (by kernel_rfl)
theorem r31:TR0 31 0 1 2 3:=⟨fun _ _ _=>⟨rfl,rfl,rfl,rfl⟩,fun _ _ _ _=>⟨rfl,rfl,rfl,rfl⟩⟩
theorem t32:TQ4 32 (.pointer 191) false 1 [.pointer none]:=kTQ4 (by kernel_rfl)
theorem t33:TQ6 33 (.slice 3) false 1 [.slice none 0 0]:=kTQ6 (by kernel_rfl)
theorem e33E:er zM 33 24 1 [.slice none 0 0]:=⟨⟨_,rfl,by kernel_rfl,by kernel_rfl⟩,t33.2.2.2.1,rfl⟩
theorem t36:TQ4 36 (.pointer 38) false 1 [.pointer none]:=kTQ4 (by kernel_rfl)
theorem t38:TQ3 38 true 2 [.slice none 0 0,.int .i64 0] [(0,1),(1,1)]:=kTQ3 (by kernel_rfl)
theorem r38:TR1 38 0 1:=⟨fun _ _ _=>⟨rfl,rfl⟩,fun _ _=>⟨rfl,rfl⟩⟩
theorem t41:TQ5 41 false 1 [.nilIface]:=kTQ5 (by kernel_rfl)
theorem t44:TQ2 44 (.array 2 28) true 8 [.int .i64 0,.int .i64 0,.int .i64 0,.int .i64 0,.int .i64 0,.int .i64 0,.int .i64 0,.int .i64 0]:=kTQ2 (by kernel_rfl)
theorem t45:TQ1 45 (.int .i64) false 1 [.int .i64 0]:=kTQ1 (by kernel_rfl)
theorem t47:TQ3 47 true 4 [.int .i64 0,.int .i64 0,.slice none 0 0,.slice none 0 0] [(0,1),(1,1),(2,1),(3,1)]:=kTQ3 (by kernel_rfl)
theorem r47:TR0 47 0 1 2 3:=⟨fun _ _ _=>⟨rfl,rfl,rfl,rfl⟩,fun _ _ _ _=>⟨rfl,rfl,rfl,rfl⟩⟩
theorem t48:TQ6 48 (.slice 94) false 1 [.slice none 0 0]:=kTQ6 (by kernel_rfl)
theorem t51:TQ4 51 (.pointer 131) false 1 [.pointer none]:=kTQ4 (by kernel_rfl)
theorem t59:TQ6 59 (.slice 24) false 1 [.slice none 0 0]:=kTQ6 (by kernel_rfl)
theorem t94:TQ3 94 true 4 [.int .i64 0,.int .i64 0,.int .i64 0,.int .i64 0] [(0,1),(1,1),(2,1),(3,1)]:=kTQ3 (by kernel_rfl)
theorem r94:TR0 94 0 1 2 3:=⟨fun _ _ _=>⟨rfl,rfl,rfl,rfl⟩,fun _ _ _ _=>⟨rfl,rfl,rfl,rfl⟩⟩
theorem e94E:er zM 94 32 4 [.int .i64 0,.int .i64 0,.int .i64 0,.int .i64 0]:=⟨⟨_,rfl,by kernel_rfl,by kernel_rfl⟩,t94.2.2.1,rfl⟩
theorem t99:TQ3 99 true 3 [.int .i64 0,.int .i64 0,.int .i64 0] [(0,1),(1,1),(2,1)]:=kTQ3 (by kernel_rfl)
theorem r99:TR4 99 0 1 2:=⟨fun _ _ _=>⟨rfl,rfl,rfl⟩,fun _ _ _=>⟨rfl,rfl,rfl⟩⟩
theorem e99E:er zM 99 24 3 [.int .i64 0,.int .i64 0,.int .i64 0]:=⟨⟨_,rfl,by kernel_rfl,by kernel_rfl⟩,t99.2.2.1,rfl⟩
theorem t131:TQ3 131 true 4 [.int .i64 0,.slice none 0 0,.slice none 0 0,.slice none 0 0] [(0,1),(1,1),(2,1),(3,1)]:=kTQ3 (by kernel_rfl)
theorem r131:TR0 131 0 1 2 3:=⟨fun _ _ _=>⟨rfl,rfl,rfl,rfl⟩,fun _ _ _ _=>⟨rfl,rfl,rfl,rfl⟩⟩
theorem t181:TQ4 181 (.pointer 5) false 1 [.pointer none]:=kTQ4 (by kernel_rfl)
theorem t189:TQ6 189 (.slice 33) false 1 [.slice none 0 0]:=kTQ6 (by kernel_rfl)
theorem t191:TQ3 191 true 6 [.int .i64 0,.slice none 0 0,.slice none 0 0,.slice none 0 0,.slice none 0 0,.slice none 0 0] [(0,4),(4,1),(5,1)]:=kTQ3 (by kernel_rfl)
theorem r191:TR5 191 0 4 5:=⟨fun _ _ _=>⟨rfl,rfl,rfl⟩,fun _ _ _ _ _ _=>⟨rfl,rfl,rfl⟩⟩
theorem t271:TQ1 271 (.int .u8) false 1 [.int .u8 0]:=kTQ1 (by kernel_rfl)
theorem t358:TQ1 358 (.int .u32) false 1 [.int .u32 0]:=kTQ1 (by kernel_rfl)
theorem t371:TQ3 371 true 4 [.pointer none,.pointer none,.pointer none,.string ⟨#[]⟩] [(0,1),(1,1),(2,1),(3,1)]:=kTQ3 (by kernel_rfl)
theorem r371:TR0 371 0 1 2 3:=⟨fun _ _ _=>⟨rfl,rfl,rfl,rfl⟩,fun _ _ _ _=>⟨rfl,rfl,rfl,rfl⟩⟩
theorem t372:TQ2 372 (.array 0 16) true 0 []:=kTQ2 (by kernel_rfl)
theorem t374:TQ7 374 true 0 []:=kTQ7 (by kernel_rfl)
theorem t376:TQ1 376 (.int .u8) false 1 [.int .u8 0]:=kTQ1 (by kernel_rfl)
theorem t377:TQ0 377 false 1 [.nilFunc]:=kTQ0 (by kernel_rfl)
theorem t378:TQ1 378 (.int .i32) false 1 [.int .i32 0]:=kTQ1 (by kernel_rfl)
theorem t379:TQ1 379 (.int .i32) false 1 [.int .i32 0]:=kTQ1 (by kernel_rfl)
theorem t381:TQ3 381 true 11 [.int .u64 0,.int .u64 0,.int .u32 0,.int .u8 0,.int .u8 0,.int .u8 0,.int .u8 0,.nilFunc,.pointer none,.int .i32 0,.int .i32 0] [(0,1),(1,1),(2,1),(3,1),(4,1),(5,1),(6,1),(7,1),(8,1),(9,1),(10,1)]:=kTQ3 (by kernel_rfl)
theorem r381:TR6 381 0 1 2 3 4 5 6 7 8 9 10:=⟨fun _ _ _=>⟨rfl,rfl,rfl,rfl,rfl,rfl,rfl,rfl,rfl,rfl,rfl⟩,fun _ _ _ _ _ _ _ _ _ _ _=>⟨rfl,rfl,rfl,rfl,rfl,rfl,rfl,rfl,rfl,rfl,rfl⟩⟩
theorem e3:zM.fn 3=some Tryz.f3:=by kernel_rfl
theorem t74:TQ6 74 (.slice 4) false 1 [.slice none 0 0]:=kTQ6 (by kernel_rfl)
theorem e8:zM.fn 8=some Tryz.f8:=by kernel_rfl
theorem e9:zM.fn 9=some Tryz.f9:=by kernel_rfl
theorem t102:TQ3 102 true 4 [.int .i64 0,.int .i64 0,.int .i64 0,.int .i64 0] [(0,1),(1,1),(2,1),(3,1)]:=kTQ3 (by kernel_rfl)
theorem r102:TR0 102 0 1 2 3:=⟨fun _ _ _=>⟨rfl,rfl,rfl,rfl⟩,fun _ _ _ _=>⟨rfl,rfl,rfl,rfl⟩⟩
theorem t104:TQ4 104 (.pointer 102) false 1 [.pointer none]:=kTQ4 (by kernel_rfl)
theorem t106:TQ3 106 true 1 [.pointer none] [(0,1)]:=kTQ3 (by kernel_rfl)
theorem r106:TR2 106 0:=⟨fun _ _ _=>rfl,fun _=>rfl⟩
theorem e10:zM.fn 10=some Tryz.f10:=by kernel_rfl
theorem t114:TQ3 114 true 3 [.int .i64 0,.slice none 0 0,.slice none 0 0] [(0,1),(1,1),(2,1)]:=kTQ3 (by kernel_rfl)
theorem r114:TR4 114 0 1 2:=⟨fun _ _ _=>⟨rfl,rfl,rfl⟩,fun _ _ _=>⟨rfl,rfl,rfl⟩⟩
theorem t120:TQ3 120 true 4 [.int .i64 0,.int .i64 0,.slice none 0 0,.slice none 0 0] [(0,1),(1,1),(2,1),(3,1)]:=kTQ3 (by kernel_rfl)
theorem r120:TR0 120 0 1 2 3:=⟨fun _ _ _=>⟨rfl,rfl,rfl,rfl⟩,fun _ _ _ _=>⟨rfl,rfl,rfl,rfl⟩⟩
theorem e11:zM.fn 11=some Tryz.f11:=by kernel_rfl
theorem t127:TQ0 127 false 1 [.nilFunc]:=kTQ0 (by kernel_rfl)
theorem t129:TQ0 129 false 1 [.nilFunc]:=kTQ0 (by kernel_rfl)
theorem e12:zM.fn 12=some Tryz.f12:=by kernel_rfl
theorem e13:zM.fn 13=some Tryz.f13:=by kernel_rfl
theorem t138:TQ0 138 false 1 [.nilFunc]:=kTQ0 (by kernel_rfl)
theorem t142:TQ1 142 (.int .u64) false 1 [.int .u64 0]:=kTQ1 (by kernel_rfl)
theorem t161:TQ0 161 false 1 [.nilFunc]:=kTQ0 (by kernel_rfl)
theorem e29:zM.fn 29=some Tryz.f29:=by kernel_rfl
theorem e41:zM.fn 41=some Tryz.f41:=by kernel_rfl
theorem e42:zM.fn 42=some Tryz.f42:=by kernel_rfl
theorem e43:zM.fn 43=some Tryz.f43:=by kernel_rfl
theorem t192:TQ0 192 false 1 [.nilFunc]:=kTQ0 (by kernel_rfl)
theorem t193:TQ0 193 false 1 [.nilFunc]:=kTQ0 (by kernel_rfl)
theorem e45:zM.fn 45=some Tryz.f45:=by kernel_rfl
theorem e46:zM.fn 46=some Tryz.f46:=by kernel_rfl
theorem t110:TQ3 110 true 1 [.int .i64 0] [(0,1)]:=kTQ3 (by kernel_rfl)
theorem r110:TR2 110 0:=⟨fun _ _ _=>rfl,fun _=>rfl⟩
theorem e47:zM.fn 47=some Tryz.f47:=by kernel_rfl
theorem t196:TQ0 196 false 1 [.nilFunc]:=kTQ0 (by kernel_rfl)
theorem t197:TQ2 197 (.array 4 1) true 4 [.nilFunc,.nilFunc,.nilFunc,.nilFunc]:=kTQ2 (by kernel_rfl)
theorem e48:zM.fn 48=some Tryz.f48:=by kernel_rfl
theorem e49:zM.fn 49=some Tryz.f49:=by kernel_rfl
theorem t58:TQ0 58 false 1 [.nilFunc]:=kTQ0 (by kernel_rfl)
theorem t199:TQ4 199 (.pointer 203) false 1 [.pointer none]:=kTQ4 (by kernel_rfl)
theorem t200:TQ4 200 (.pointer 279) false 1 [.pointer none]:=kTQ4 (by kernel_rfl)
theorem t201:TQ2 201 (.array 2 200) true 2 [.pointer none,.pointer none]:=kTQ2 (by kernel_rfl)
theorem t203:TQ3 203 true 11 [.pointer none,.int .i64 0,.int .i64 0,.slice none 0 0,.slice none 0 0,.pointer none,.pointer none,.int .i64 0,.slice none 0 0,.slice none 0 0,.int .i64 0] [(0,1),(1,4),(5,2),(7,3),(10,1)]:=kTQ3 (by kernel_rfl)
theorem r203:TR7 203 0 1 5 7 10:=⟨fun _ _ _=>⟨rfl,rfl,rfl,rfl,rfl⟩,fun _ _ _ _ _ _ _ _ _ _ _=>⟨rfl,rfl,rfl,rfl,rfl⟩⟩
theorem t218:TQ2 218 (.map 3 3) false 1 [.map none]:=kTQ2 (by kernel_rfl)
theorem t275:TQ4 275 (.pointer 341) false 1 [.pointer none]:=kTQ4 (by kernel_rfl)
theorem t277:TQ2 277 (.map 3 2) false 1 [.map none]:=kTQ2 (by kernel_rfl)
theorem t279:TQ3 279 true 8 [.pointer none,.int .i64 0,.int .i64 0,.nilFunc,.nilFunc,.map none,.map none,.map none] [(0,1),(1,1),(2,1),(3,1),(4,1),(5,1),(6,1),(7,1)]:=kTQ3 (by kernel_rfl)
theorem r279:TR8 279 0 1 2 3 4 5 6 7:=⟨fun _ _ _=>⟨rfl,rfl,rfl,rfl,rfl,rfl,rfl,rfl⟩,fun _ _ _ _ _ _ _ _=>⟨rfl,rfl,rfl,rfl,rfl,rfl,rfl,rfl⟩⟩
theorem e50:zM.fn 50=some Tryz.f50:=by kernel_rfl
theorem t213:TQ0 213 false 1 [.nilFunc]:=kTQ0 (by kernel_rfl)
theorem t217:TQ0 217 false 1 [.nilFunc]:=kTQ0 (by kernel_rfl)
theorem e51:zM.fn 51=some Tryz.f51:=by kernel_rfl
theorem e52:zM.fn 52=some Tryz.f52:=by kernel_rfl
theorem e53:zM.fn 53=some Tryz.f53:=by kernel_rfl
theorem e54:zM.fn 54=some Tryz.f54:=by kernel_rfl
theorem e55:zM.fn 55=some Tryz.f55:=by kernel_rfl
theorem e56:zM.fn 56=some Tryz.f56:=by kernel_rfl
theorem e57:zM.fn 57=some Tryz.f57:=by kernel_rfl
theorem t222:TQ3 222 true 3 [.slice none 0 0,.slice none 0 0,.slice none 0 0] [(0,1),(1,1),(2,1)]:=kTQ3 (by kernel_rfl)
theorem r222:TR4 222 0 1 2:=⟨fun _ _ _=>⟨rfl,rfl,rfl⟩,fun _ _ _=>⟨rfl,rfl,rfl⟩⟩
theorem e58:zM.fn 58=some Tryz.f58:=by kernel_rfl
theorem e59:zM.fn 59=some Tryz.f59:=by kernel_rfl
theorem t137:TQ0 137 false 1 [.nilFunc]:=kTQ0 (by kernel_rfl)
theorem e81:zM.fn 81=some Tryz.f81:=by kernel_rfl
theorem e82:zM.fn 82=some Tryz.f82:=by kernel_rfl
theorem e83:zM.fn 83=some Tryz.f83:=by kernel_rfl
theorem e84:zM.fn 84=some Tryz.f84:=by kernel_rfl
theorem t215:TQ0 215 false 1 [.nilFunc]:=kTQ0 (by kernel_rfl)
theorem t246:TQ0 246 false 1 [.nilFunc]:=kTQ0 (by kernel_rfl)
theorem e85:zM.fn 85=some Tryz.f85:=by kernel_rfl
theorem t250:TQ0 250 false 1 [.nilFunc]:=kTQ0 (by kernel_rfl)
theorem t183:TQ3 183 true 1 [.pointer none] [(0,1)]:=kTQ3 (by kernel_rfl)
theorem r183:TR2 183 0:=⟨fun _ _ _=>rfl,fun _=>rfl⟩
theorem e99:zM.fn 99=some Tryz.f99:=by kernel_rfl
theorem t256:TQ0 256 false 1 [.nilFunc]:=kTQ0 (by kernel_rfl)
theorem t258:TQ0 258 false 1 [.nilFunc]:=kTQ0 (by kernel_rfl)
theorem e258E:er zM 258 8 1 [.nilFunc]:=⟨⟨_,rfl,by kernel_rfl,by kernel_rfl⟩,t258.2.2.1,rfl⟩
theorem t260:TQ6 260 (.slice 258) false 1 [.slice none 0 0]:=kTQ6 (by kernel_rfl)
theorem t262:TQ3 262 true 6 [.int .i64 0,.int .i64 0,.int .i64 0,.int .i64 0,.int .i64 0,.int .i64 0] [(0,1),(1,1),(2,1),(3,1),(4,1),(5,1)]:=kTQ3 (by kernel_rfl)
theorem r262:TR3 262 0 1 2 3 4 5:=⟨fun _ _ _=>⟨rfl,rfl,rfl,rfl,rfl,rfl⟩,fun _ _ _ _ _ _=>⟨rfl,rfl,rfl,rfl,rfl,rfl⟩⟩
theorem e262E:er zM 262 48 6 [.int .i64 0,.int .i64 0,.int .i64 0,.int .i64 0,.int .i64 0,.int .i64 0]:=⟨⟨_,rfl,by kernel_rfl,by kernel_rfl⟩,t262.2.2.1,rfl⟩
theorem e100:zM.fn 100=some Tryz.f100:=by kernel_rfl
theorem e102:zM.fn 102=some Tryz.f102:=by kernel_rfl
theorem e103:zM.fn 103=some Tryz.f103:=by kernel_rfl
theorem e104:zM.fn 104=some Tryz.f104:=by kernel_rfl
theorem e105:zM.fn 105=some Tryz.f105:=by kernel_rfl
theorem e106:zM.fn 106=some Tryz.f106:=by kernel_rfl
theorem e107:zM.fn 107=some Tryz.f107:=by kernel_rfl
theorem e108:zM.fn 108=some Tryz.f108:=by kernel_rfl
theorem e109:zM.fn 109=some Tryz.f109:=by kernel_rfl
theorem e110:zM.fn 110=some Tryz.f110:=by kernel_rfl
theorem e111:zM.fn 111=some Tryz.f111:=by kernel_rfl
theorem e112:zM.fn 112=some Tryz.f112:=by kernel_rfl
theorem t95:TQ0 95 false 1 [.nilFunc]:=kTQ0 (by kernel_rfl)
theorem e113:zM.fn 113=some Tryz.f113:=by kernel_rfl
theorem t339:TQ3 339 true 2 [.slice none 0 0,.map none] [(0,1),(1,1)]:=kTQ3 (by kernel_rfl)
theorem r339:TR1 339 0 1:=⟨fun _ _ _=>⟨rfl,rfl⟩,fun _ _=>⟨rfl,rfl⟩⟩
theorem t341:TQ3 341 true 3 [.slice none 0 0,.map none,.int .i64 0] [(0,2),(2,1)]:=kTQ3 (by kernel_rfl)
theorem r341:TR9 341 0 2:=⟨fun _ _ _=>⟨rfl,rfl⟩,fun _ _ _=>⟨rfl,rfl⟩⟩
theorem e114:zM.fn 114=some Tryz.f114:=by kernel_rfl
theorem e115:zM.fn 115=some Tryz.f115:=by kernel_rfl
theorem e116:zM.fn 116=some Tryz.f116:=by kernel_rfl
theorem e117:zM.fn 117=some Tryz.f117:=by kernel_rfl
theorem e118:zM.fn 118=some Tryz.f118:=by kernel_rfl
theorem e119:zM.fn 119=some Tryz.f119:=by kernel_rfl
theorem e120:zM.fn 120=some Tryz.f120:=by kernel_rfl
theorem e121:zM.fn 121=some Tryz.f121:=by kernel_rfl
theorem t288:TQ0 288 false 1 [.nilFunc]:=kTQ0 (by kernel_rfl)
theorem e122:zM.fn 122=some Tryz.f122:=by kernel_rfl
theorem e123:zM.fn 123=some Tryz.f123:=by kernel_rfl
theorem e124:zM.fn 124=some Tryz.f124:=by kernel_rfl
theorem e125:zM.fn 125=some Tryz.f125:=by kernel_rfl
theorem e126:zM.fn 126=some Tryz.f126:=by kernel_rfl
theorem e127:zM.fn 127=some Tryz.f127:=by kernel_rfl
theorem e128:zM.fn 128=some Tryz.f128:=by kernel_rfl
theorem e129:zM.fn 129=some Tryz.f129:=by kernel_rfl
theorem e130:zM.fn 130=some Tryz.f130:=by kernel_rfl
theorem e131:zM.fn 131=some Tryz.f131:=by kernel_rfl
theorem e132:zM.fn 132=some Tryz.f132:=by kernel_rfl
theorem e133:zM.fn 133=some Tryz.f133:=by kernel_rfl
theorem t101:TQ3 101 true 4 [.int .i64 0,.int .i64 0,.int .i64 0,.int .i64 0] [(0,1),(1,1),(2,1),(3,1)]:=kTQ3 (by kernel_rfl)
theorem r101:TR0 101 0 1 2 3:=⟨fun _ _ _=>⟨rfl,rfl,rfl,rfl⟩,fun _ _ _ _=>⟨rfl,rfl,rfl,rfl⟩⟩
theorem t292:TQ4 292 (.pointer 296) false 1 [.pointer none]:=kTQ4 (by kernel_rfl)
theorem t296:TQ3 296 true 5 [.pointer none,.slice none 0 0,.slice none 0 0,.slice none 0 0,.map none] [(0,1),(1,3),(4,1)]:=kTQ3 (by kernel_rfl)
theorem r296:TR10 296 0 1 4:=⟨fun _ _ _=>⟨rfl,rfl,rfl⟩,fun _ _ _ _ _=>⟨rfl,rfl,rfl⟩⟩
theorem t298:TQ0 298 false 1 [.nilFunc]:=kTQ0 (by kernel_rfl)
theorem e134:zM.fn 134=some Tryz.f134:=by kernel_rfl
theorem e135:zM.fn 135=some Tryz.f135:=by kernel_rfl
theorem e136:zM.fn 136=some Tryz.f136:=by kernel_rfl
theorem e149:zM.fn 149=some Tryz.f149:=by kernel_rfl
theorem e155:zM.fn 155=some Tryz.f155:=by kernel_rfl
theorem e158:zM.fn 158=some Tryz.f158:=by kernel_rfl
theorem e159:zM.fn 159=some Tryz.f159:=by kernel_rfl
theorem e160:zM.fn 160=some Tryz.f160:=by kernel_rfl
theorem t312:TQ0 312 false 1 [.nilFunc]:=kTQ0 (by kernel_rfl)
theorem e161:zM.fn 161=some Tryz.f161:=by kernel_rfl
theorem e162:zM.fn 162=some Tryz.f162:=by kernel_rfl
theorem e163:zM.fn 163=some Tryz.f163:=by kernel_rfl
theorem e164:zM.fn 164=some Tryz.f164:=by kernel_rfl
theorem e181:zM.fn 181=some Tryz.f181:=by kernel_rfl
theorem t321:TQ6 321 (.slice 262) false 1 [.slice none 0 0]:=kTQ6 (by kernel_rfl)
theorem e182:zM.fn 182=some Tryz.f182:=by kernel_rfl
theorem e183:zM.fn 183=some Tryz.f183:=by kernel_rfl
theorem e184:zM.fn 184=some Tryz.f184:=by kernel_rfl
theorem e185:zM.fn 185=some Tryz.f185:=by kernel_rfl
theorem e186:zM.fn 186=some Tryz.f186:=by kernel_rfl
theorem e187:zM.fn 187=some Tryz.f187:=by kernel_rfl
theorem e188:zM.fn 188=some Tryz.f188:=by kernel_rfl
theorem e189:zM.fn 189=some Tryz.f189:=by kernel_rfl
theorem e194:zM.fn 194=some Tryz.f194:=by kernel_rfl
theorem e195:zM.fn 195=some Tryz.f195:=by kernel_rfl
theorem t337:TQ6 337 (.slice 344) false 1 [.slice none 0 0]:=kTQ6 (by kernel_rfl)
theorem t344:TQ3 344 true 2 [.int .i64 0,.int .i64 0] [(0,1),(1,1)]:=kTQ3 (by kernel_rfl)
theorem r344:TR1 344 0 1:=⟨fun _ _ _=>⟨rfl,rfl⟩,fun _ _=>⟨rfl,rfl⟩⟩
theorem e344E:er zM 344 16 2 [.int .i64 0,.int .i64 0]:=⟨⟨_,rfl,by kernel_rfl,by kernel_rfl⟩,t344.2.2.1,rfl⟩
theorem e196:zM.fn 196=some Tryz.f196:=by kernel_rfl
theorem e197:zM.fn 197=some Tryz.f197:=by kernel_rfl
theorem e198:zM.fn 198=some Tryz.f198:=by kernel_rfl
theorem e199:zM.fn 199=some Tryz.f199:=by kernel_rfl
theorem e200:zM.fn 200=some Tryz.f200:=by kernel_rfl
theorem e201:zM.fn 201=some Tryz.f201:=by kernel_rfl
theorem e202:zM.fn 202=some Tryz.f202:=by kernel_rfl
theorem e203:zM.fn 203=some Tryz.f203:=by kernel_rfl
theorem e204:zM.fn 204=some Tryz.f204:=by kernel_rfl
theorem e205:zM.fn 205=some Tryz.f205:=by kernel_rfl
theorem e206:zM.fn 206=some Tryz.f206:=by kernel_rfl
theorem e207:zM.fn 207=some Tryz.f207:=by kernel_rfl
theorem e208:zM.fn 208=some Tryz.f208:=by kernel_rfl
theorem e209:zM.fn 209=some Tryz.f209:=by kernel_rfl
theorem e210:zM.fn 210=some Tryz.f210:=by kernel_rfl
theorem e211:zM.fn 211=some Tryz.f211:=by kernel_rfl
theorem e212:zM.fn 212=some Tryz.f212:=by kernel_rfl
theorem e213:zM.fn 213=some Tryz.f213:=by kernel_rfl
theorem e221:zM.fn 221=some Tryz.f221:=by kernel_rfl
theorem e222:zM.fn 222=some Tryz.f222:=by kernel_rfl
theorem e223:zM.fn 223=some Tryz.f223:=by kernel_rfl
theorem e224:zM.fn 224=some Tryz.f224:=by kernel_rfl
theorem e225:zM.fn 225=some Tryz.f225:=by kernel_rfl
theorem e239:zM.fn 239=some Tryz.f239:=by kernel_rfl
theorem t322:TQ0 322 false 1 [.nilFunc]:=kTQ0 (by kernel_rfl)
theorem e240:zM.fn 240=some Tryz.f240:=by kernel_rfl
theorem e241:zM.fn 241=some Tryz.f241:=by kernel_rfl
theorem t357:TQ4 357 (.pointer 339) false 1 [.pointer none]:=kTQ4 (by kernel_rfl)
theorem e245:zM.fn 245=some Tryz.f245:=by kernel_rfl
theorem e246:zM.fn 246=some Tryz.f246:=by kernel_rfl
theorem e247:zM.fn 247=some Tryz.f247:=by kernel_rfl
theorem e248:zM.fn 248=some Tryz.f248:=by kernel_rfl
theorem e249:zM.fn 249=some Tryz.f249:=by kernel_rfl
theorem e250:zM.fn 250=some Tryz.f250:=by kernel_rfl
theorem t350:TQ0 350 false 1 [.nilFunc]:=kTQ0 (by kernel_rfl)
theorem e251:zM.fn 251=some Tryz.f251:=by kernel_rfl
theorem e252:zM.fn 252=some Tryz.f252:=by kernel_rfl
theorem e255:zM.fn 255=some Tryz.f255:=by kernel_rfl
theorem e264:zM.fn 264=some Tryz.f264:=by kernel_rfl
theorem e265:zM.fn 265=some Tryz.f265:=by kernel_rfl
theorem e266:zM.fn 266=some Tryz.f266:=by kernel_rfl
theorem e267:zM.fn 267=some Tryz.f267:=by kernel_rfl
theorem e269:zM.fn 269=some Tryz.f269:=by kernel_rfl
theorem e276:zM.fn 276=some Tryz.f276:=by kernel_rfl
theorem e277:zM.fn 277=some Tryz.f277:=by kernel_rfl
theorem e278:zM.fn 278=some Tryz.f278:=by kernel_rfl
theorem e283:zM.fn 283=some Tryz.f283:=by kernel_rfl
end Tryz
end Go.Ab

end
section
namespace Go.Ab
open Go.Proofs
set_option maxRecDepth 10000
def Z0:=aj t31<|r31
def Z1:=aj t191<|r191
def Z2:=aj t99<|r99
def Z3:=aj t7<|r7
def Z4:=aj t131<|r131
def Z5:=aj t8<|r8
def Z6:=aj t339<|r339
def Z7:=aj t341<|r341
def Z8:=aj t114<|r114
def Z9:=aj t120<|r120
def Z10:=aj t344<|r344
def Z11:=aj t28<|r28
def Z12:=aj t203<|r203
def Z13:=aj t94<|r94
def Z14:=aj t381<|r381
def Z15:=aj t13<|r13
def Z16:=aj t279<|r279
def Z17:=aj t262<|r262
def Z18:=aj t14<|r14
def Z19:=aj t371<|r371
def Z20:=aj t19<|r19
def Z21:=aj t18<|r18
def Z22:=aj t222<|r222
def Z23:=aj t102<|r102
def Tryz.FR:=aj t1<|aj t2<|aj t3<|aj t4<|aj t45<|aj Z17<|aj t321<|t322
theorem values{h0:Hp}(c:h0.t.Sized h0.n){v:Value}(d:Fl v):Ret zM 239 [v] h0 fun r h'=>Gr h0 h'/\ ∃b,r=.func (.func 264) #[] #[ptrTo b]/\h0.n<=b/\h'.load b 0 1=some [v]:=by
 have S:=Si c
 refine ae (n:=4) (rs:=[.tmp 2]) rfl Tryz.e239 rfl rfl rfl (lbt rfl) ?_
 simp only [BS,Nat.reduceLT]
 refine ah (cP (by assumption)) S ?_;clear S;intro h b S a
 simp only [BS,LB,ac,Nat.reduceLT,Nat.reduceEqDiff]
 exact⟨S.gr,b,rfl,a,S.ld m0 rfl⟩
theorem rZ{h0:Hp}(d:h0.t.Sized h0.n){v:Value}{b:Nat}{ps:List Pl}(y:h0.load b 0 1=some [v])(q:az h0 6 jf v ps)(r:ps.length<1000):
 Iter zM 264 [] [ptrTo b] h0 (fun c=>c=b\/ar v c) (ps.map fun p=>[.agg ⟨jf p⟩]):=by
 refine rj fun z J Z Y h F s k=>?_
 refine enter (n:=16) (rs:=[]) rfl Tryz.e264 rfl rfl rfl (lbt rfl) ?_
 have l:=s.load d y (.inl rfl)
 have f:=s.sl d q (fun b h=>.inr h)
 simp only [BS,LB,Nat.reduceLT,FR,l,f.lenq]
 refine cm (fun(i:Nat) g h=>i<=ps.length/\ ∃F,ItS h0 (fun c=>c=b\/ar v c) h F/\J i h F/\g 0=.func (.yield z) #[] #[]/\g 5=v/\g 6=.int .i64 ps.length/\g 7=.int .i64 i) (fun i=>ps.length-i) ?_ 0 _ _ ?_
 . intro i A g h ⟨hi,F,s,k,r0,r5,r6,r7⟩
   by_cases hlt:i<ps.length
   . have f:=s.sl d q (fun b h=>.inr h)
     obtain⟨c,o,j,m⟩:=f.ix (kd:=.i64) encP_len hlt
     have S:=Si s.ok
     have w:aq .i64 ((i:Int)+1)=((i+1:Nat):Int):=by rw [wrap64]<;>omega
     simp only [BS,LB,Nat.reduceLT,Nat.reduceEqDiff,FR,r5,r6,r7,aW,hlt,j,m]
     refine ah aA S ?_;clear S;intro h B S t
     simp only [BS,LB,Nat.reduceLT,Nat.reduceEqDiff,jf]
     refine aC (S.store (i:=0) rfl ?_ ?_ rfl rfl ?_ ono) ?_
     . exact(by exact Tryz.t262.2.1)
     . exact(by intro x e;cases e)
     . exact lbt rfl
     clear S;rintro h ⟨S,C⟩;clear C;simp only [LC,ag,lay,Xc,Xd,Nat.reduceAdd]at S
     simp only [BS,LB,Nat.reduceLT,Nat.reduceEqDiff,FR,r0,S.lds (b:=B) (o:=0) (n:=6) m0 (lbt rfl)]
     refine gL Y (s.gr S.gr) (Y.gr _ _ _ _ k S.gr) (i:=i) (by simp [hlt,jf]) ?_ ?_ ?_
     . intro u D a E _ _
       simp only [BS,LB,Nat.reduceLT,Nat.reduceEqDiff,r7,w]
       exact A (i+1) _ _ (by omega) ⟨by omega,D,E,a,by simp [aa,r0],by simp [aa,r5],by simp [aa,r6],by simp [aa]⟩
     . intro u a _
       simp only [BS,LB,Nat.reduceLT,Nat.reduceEqDiff]
       exact jw rfl ⟨rfl,.inr (.inl ⟨_,rfl,a⟩)⟩
     . intro v u a
       simp only [BS]
       exact cZ (cq ⟨rfl,.inr (.inr ⟨_,rfl,a⟩)⟩)
   . simp only [BS,LB,Nat.reduceLT,r6,r7,aW,hlt]
     have:i=ps.length:=by omega
     subst this
     exact dT (cq ⟨rfl,_,rfl,rfl,.inl ⟨_,F,rfl,by simpa using k⟩⟩)
 . exact⟨by omega,F,s,k,by simp [aa,cL],by simp [aa],by simp [aa],by simp [aa]⟩
def Tryz.F0E:=aj t1<|aj t2<|aj t3<|aj t4<|aj t5<|aj t45<|aj t256<|aj Z17<|t321
def Tryz.F0F:=aj t1<|aj t2<|aj t3<|aj t4<|aj t5<|aj t24<|aj t29<|aj Z0<|aj t45<|aj Z2<|aj t256<|aj Z17<|t321
def Tryz.Fv:=aj t1<|aj t2<|aj t3<|aj t4<|aj t5<|aj t6<|aj Z3<|aj Z5<|aj t24<|aj t29<|aj Z0<|aj t45<|aj Z2<|aj Z17<|t322
def l8(f g:Nat)(v:Value)(h':Hp):Prop:= ∃d a b,∃(e:List Pl) (D:Nat->Prop),v=.func (.func d) a b/\Iter zM d a.toList b.toList h' D (e.map fun p=>[.agg ⟨jf p⟩])/\(∀p∈e,p.lo<=p.n/\p.n<p.hi)/\ ∀c,D c->c<f\/g<=c
theorem one_ok{h0:Hp}(k:h0.t.Sized h0.n){c n a d:Int}(l:a<=n)(m:n<d):
 Ret zM 182 [.int .i64 c,.int .i64 n,.int .i64 a,.int .i64 d] h0 fun v h'=>Gr h0 h'/\l8 0 h0.n v h':=by
 have S:=Si k
 refine ae (n:=16) (rs:=[.tmp 8]) rfl Tryz.e182 rfl rfl rfl (lbt rfl) ?_
 simp only [BS,LB,Nat.reduceLT,Nat.reduceEqDiff,Nat.reduceAdd,F0E]
 refine ah (cB (by exact Tryz.t321.1) (by exact Tryz.e262E) (by decide) (by rfl)) S ?_;clear S;intro h b S f;simp only [LC,bq,bV,ag,Nat.reduceMul,Nat.reduceAdd,Xi,Xf,Xg,Xm]at S
 simp only [BS,LB,Nat.reduceLT,Nat.reduceEqDiff]
 have q:=S.fr.n
 refine step_ret (values S.ok bF) ?_;intro v h ⟨g,b2,e,n2,l2⟩;replace S:=S.call g;clear g
 subst e
 simp only [BS,LB,ac,Nat.reduceLT,Nat.reduceEqDiff]
 have r:az h 6 jf (.slice (some ⟨b,0,none⟩) 1 1) [⟨0,0,c,n,a,d⟩]:=.inr ⟨b,0,none,1,rfl,XC _,S.lds (b:=b) (o:=0) (n:=1*6) m0 (lbt rfl)⟩
 exact⟨S.gr,_,#[],#[ptrTo b2],_,_,rfl,rZ S.ok l2 r (by simp),by intro p j;simp at j;subst j;exact⟨l,m⟩,fun c i=>by rcases i with rfl|i;exact .inr (by omega);cases i;exact .inr f⟩
theorem shapes_ok{h0:Hp}(t:h0.t.Sized h0.n){a:Gra}(d:Good a){k l m:Value}(r:c8 h0 k l m a):
 Ret zM 184 [iO a k l m] h0 fun v h'=>Gr h0 h'/\l8 0 h0.n v h':=by
 have S:=Si t
 have z:=d.n1
 have A:=d.n2
 have w:aq .i64 ((a.nodes:Int)+1)=((a.nodes+1:Nat):Int):=by rw [wrap64]<;>omega
 refine ae (n:=22) (rs:=[.tmp 2]) rfl Tryz.e184 rfl rfl rfl (lbt rfl) ?_
 simp only [BS,Nat.reduceLT,iO]
 refine ah (a8 (by intro x e;cases e)) S ?_;clear S;intro h b S u;simp only [ag]at S
 simp only [BS,LB,Nat.reduceLT,Nat.reduceEqDiff,Nat.reduceAdd,F0F,r.X.lenq,r.Y.lenq,w,S.ld (b:=b) (o:=0) m0 rfl,S.ld (b:=b) (o:=1) m0 rfl,S.ld (b:=b) (o:=2) m0 rfl]
 refine ah (cB (by exact Tryz.t321.1) (by exact Tryz.e262E) (by decide) (by rfl)) S ?_;clear S;intro h i S f;simp only [LC,bq,bV,ag,Nat.reduceMul,Nat.reduceAdd,Xi,Xf,Xg,Xm]at S
 simp only [BS,LB,Nat.reduceLT,Nat.reduceEqDiff]
 have q:=S.fr.n
 refine step_ret (values S.ok bF) ?_;intro v h ⟨g,b2,e,n2',l2⟩;replace S:=S.call g;clear g
 subst e
 simp only [BS,LB,ac,Nat.reduceLT,Nat.reduceEqDiff]
 have y:az h 6 jf (.slice (some ⟨i,0,none⟩) 2 2) [⟨0,0,6,a.X.length,a.nodes,(a.nodes+1:Nat)⟩,⟨0,1,6,a.Y.length,a.nodes,(a.nodes+1:Nat)⟩]:=.inr ⟨i,0,none,2,rfl,XC _,S.lds (b:=i) (o:=0) (n:=2*6) m0 (lbt rfl)⟩
 refine⟨S.gr,_,#[],#[ptrTo b2],_,_,rfl,rZ S.ok l2 y (by simp),?_,fun c j=>by rcases j with rfl|j;exact .inr (by omega);cases j;exact .inr f⟩
 intro p s
 have:=d.lX
 have:=d.lY
 simp at s
 rcases s with rfl|rfl<;>(simp only [];omega)
theorem nodes_ok{h0:Hp}(i:h0.t.Sized h0.n){c d f g:Value}:Ret zM 186 [.agg ⟨[g,c,d,f]⟩] h0 fun v h'=>Gr h0 h'/\ ∃b,v=.func (.func 240) #[] #[ptrTo b]/\h0.n<=b/\Row h' b [g,c,d,f] 1:=by
 have S:=Si i
 refine ae (n:=4) (rs:=[.tmp 2]) rfl Tryz.e186 rfl rfl rfl (lbt rfl) ?_
 simp only [BS,Nat.reduceLT]
 refine ah (a8 (by intro x e;cases e)) S ?_;clear S;intro h b S a;simp only [ag]at S
 simp only [BS,LB,ac,Nat.reduceLT,Nat.reduceEqDiff]
 exact⟨S.gr,b,rfl,a,S.row m0⟩
theorem arcs_ok{h0:Hp}(i:h0.t.Sized h0.n){c d f g:Value}:Ret zM 189 [.agg ⟨[g,c,d,f]⟩] h0 fun v h'=>Gr h0 h'/\ ∃b,v=.func (.func 241) #[] #[ptrTo b]/\h0.n<=b/\Row h' b [g,c,d,f] 1:=by
 have S:=Si i
 refine ae (n:=4) (rs:=[.tmp 2]) rfl Tryz.e189 rfl rfl rfl (lbt rfl) ?_
 simp only [BS,Nat.reduceLT]
 refine ah (a8 (by intro x e;cases e)) S ?_;clear S;intro h b S a;simp only [ag]at S
 simp only [BS,LB,ac,Nat.reduceLT,Nat.reduceEqDiff]
 exact⟨S.gr,b,rfl,a,S.row m0⟩
def plN(X Y:List Int):List Pl:=(Xa X.length).flatMap fun(i:Nat)=>[⟨i,0,7,X.getD i 0,-2147483648,2147483648⟩,⟨i,1,7,Y.getD i 0,-2147483648,2147483648⟩]
theorem plN_len(X Y:List Int):(plN X Y).length=2*X.length:=by
 unfold plN
 rw [XD]
 simp [XE]
 omega
theorem plN_at(X Y:List Int){i:Nat}(c:i<X.length):(plN X Y)[2*i]? =some ⟨i,0,7,X.getD i 0,-2147483648,2147483648⟩/\(plN X Y)[2*i+1]? =some ⟨i,1,7,Y.getD i 0,-2147483648,2147483648⟩:=by
 unfold plN
 have b: ∀(n j:Nat) (f:Nat->Pl) (k:Nat->Pl),j<n->((Xa n).flatMap fun i=>[f i,k i])[2*j]? =some (f j)/\((Xa n).flatMap fun i=>[f i,k i])[2*j+1]? =some (k j):=by
  intro n
  induction n with
  |zero=>intro j f k d;omega
  | succ n e=>
    intro j f k d
    have a:((Xa n).flatMap fun i=>[f i,k i]).length=2*n:=by rw [XD];simp [XE];omega
    rw [XN,Xo]
    by_cases h:j<n
    . rw [Xh (by omega),Xh (by omega)];exact e j f k h
    . have:j=n:=by omega
      subst this
      rw [Xj (by omega),Xj (by omega),a]
      simp
 exact b _ _ _ _ c
theorem Am{h0:Hp}(d:h0.t.Sized h0.n){l m K L:Value}{b:Nat}{X Y:List Int}(t:Row h0 b [L,l,m,K] 1)(G:az h0 1 (encI .i64) l X)(M:az h0 1 (encI .i64) m Y)(hl:X.length=Y.length)(H:X.length<1000):
 Iter zM 240 [] [ptrTo b] h0 (fun c=>c=b\/ar l c\/ar m c) ((plN X Y).map fun p=>[.agg ⟨jf p⟩]):=by
 refine rj fun N J Z u h F s r=>?_
 refine enter (n:=38) (rs:=[]) rfl Tryz.e240 rfl rfl rfl (lbt rfl) ?_
 have x:=s.load d (t.load1 (o:=1) rfl) (.inl rfl)
 simp only [BS,LB,Nat.reduceLT,Nat.reduceEqDiff,Fv,x,G.lenq]
 refine cm (fun(i:Nat) g h=>i<=X.length/\ ∃F,ItS h0 (fun c=>c=b\/ar l c\/ar m c) h F/\J (2*i) h F/\g 0=.func (.yield N) #[] #[]/\g 1=ptrTo b/\g 8=.int .i64 X.length/\g 9=.int .i64 i) (fun i=>X.length-i) ?_ 0 _ _ ?_
 . intro i O g h ⟨hi,F,s,r,r0,r1,r8,r9⟩
   by_cases hlt:i<X.length
   . have y:=s.sl d G (fun b h=>.inr (.inl h))
     have z:=s.sl d M (fun b h=>.inr (.inr h))
     have x:=s.load d (t.load1 (o:=1) rfl) (.inl rfl)
     have P:=s.load d (t.load1 (o:=2) rfl) (.inl rfl)
     obtain⟨c,o,j,A⟩:=y.ix (kd:=.i64) (eR _) hlt
     obtain⟨c2,o2,f,k⟩:=z.ix (kd:=.i64) (eR _) (i:=i) (by omega)
     have S:=Si s.ok
     have w:aq .i64 ((i:Int)+1)=((i+1:Nat):Int):=by rw [wrap64]<;>omega
     simp only [BS,LB,Nat.reduceLT,Nat.reduceEqDiff,r8,r9,aW,hlt]
     refine aE (aJ rfl) (q:=1024) (ps:=[]) (by kernel_rfl) ?_
     simp only [BS,LB,cls,Nat.reduceLT,Nat.reduceEqDiff,Nat.reduceAdd,Nat.reducePow,Nat.reduceDiv,Nat.reduceMod,Nat.reduceLeDiff,Fv,r1,x,P,j,f,A,k,encI]
     refine df (cB (by exact Tryz.t24.1) (by exact Tryz.e2E) (by decide) (by rfl)) S ?_;clear S;intro h e S B C;simp only [LC,bq,bV,ag,Nat.reduceMul,Nat.reduceAdd,Xi,Xf,Xg,Xm]at S
     simp only [BS,LB,cls,Nat.reduceLT,Nat.reduceEqDiff,Nat.reduceAdd,Nat.reducePow,Nat.reduceDiv,Nat.reduceMod,Nat.reduceLeDiff,Xk,Fv]
     have Q:aq .i64 1=1:=rfl
     have T:aq .i64 2=2:=rfl
     have I:=plN_at X Y hlt
     rw [aZ]
     simp only [BS,LB,Nat.reduceLT,Nat.reduceEqDiff,Nat.reduceAdd,Int.reduceToNat,Int.reduceLE,Int.reduceLT,Xk,Fv,r0,S.ld (b:=e) (o:=0) m0 rfl,S.ld (b:=e) (o:=1) m0 rfl]
     refine gL u (s.gr S.gr) (u.gr _ _ _ _ r S.gr) (i:=2*i) (by rw [Xs,I.1];simp [jf,zN,hlt]) ?_ ?_ ?_
     . intro U F2 a V D _
       have W:e∉F:=fun hm=>by have:=s.lt _ hm;omega
       have R:Row U e _ 1:=(S.row m0).of_get (D.get _ ((S.row m0).lt S.ok) W)
       have R1:=R.load1 (o:=1) rfl
       have ad:True:=trivial
       simp only [BS,LB,Nat.reduceLT,Nat.reduceEqDiff,Int.reduceAdd,Q]
       rw [aZ]
       simp only [BS,LB,Nat.reduceLT,Nat.reduceEqDiff,Nat.reduceAdd,Int.reduceToNat,Int.reduceLE,Int.reduceLT,Xk,Fv,r0,R1]
       refine gL u V a (i:=2*i+1) (by rw [Xs,I.2];simp [jf,zN,show i<Y.length by omega]) ?_ ?_ ?_
       . intro h3 F3 a s3 _ _
         simp only [BS,LB,Nat.reduceLT,Nat.reduceEqDiff,Int.reduceAdd,T]
         rw [aZ]
         simp only [BS,LB,Nat.reduceLT,Nat.reduceEqDiff,Int.reduceLT,r9,w]
         exact O (i+1) _ _ (by omega) ⟨by omega,F3,s3,a,by simp [aa,r0],by simp [aa,r1],by simp [aa,r8],by simp [aa]⟩
       . intro E a _
         simp only [BS,LB,Nat.reduceLT,Nat.reduceEqDiff]
         exact jw rfl ⟨rfl,.inr (.inl ⟨_,rfl,a⟩)⟩
       . intro v E a
         simp only [BS]
         exact cZ (cq ⟨rfl,.inr (.inr ⟨_,rfl,a⟩)⟩)
     . intro E a _
       simp only [BS,LB,Nat.reduceLT,Nat.reduceEqDiff]
       exact jw rfl ⟨rfl,.inr (.inl ⟨_,rfl,a⟩)⟩
     . intro v E a
       simp only [BS]
       exact cZ (cq ⟨rfl,.inr (.inr ⟨_,rfl,a⟩)⟩)
   . simp only [BS,LB,Nat.reduceLT,r8,r9,aW,hlt]
     have:i=X.length:=by omega
     subst this
     exact dT (cq ⟨rfl,_,rfl,rfl,.inl ⟨_,F,rfl,by simpa [plN_len]using r⟩⟩)
 . exact⟨by omega,F,s,r,by simp [aa,cL],by simp [aa,cL,ab],by simp [aa],by simp [aa]⟩
def Tryz.Fm:=aj t1<|aj t2<|aj t3<|aj t4<|aj t5<|aj t6<|aj Z3<|aj Z5<|aj t9<|aj t24<|aj t29<|aj Z0<|aj t45<|aj Z2<|aj Z17<|aj t321<|t322
def plA(n:Nat)(A:List Arc):List Pl:=(Xa A.length).flatMap fun(i:Nat)=>[⟨i,0,9,(A.getD i default).s,0,n⟩,⟨i,1,9,(A.getD i default).t,0,n⟩,⟨i,2,10,(A.getD i default).w,0,2147483648⟩]
theorem flat3_at{α:Type}(f k l:Nat->α): ∀(n j:Nat),j<n->((Xa n).flatMap fun i=>[f i,k i,l i])[3*j]? =some (f j)/\((Xa n).flatMap fun i=>[f i,k i,l i])[3*j+1]? =some (k j)/\((Xa n).flatMap fun i=>[f i,k i,l i])[3*j+2]? =some (l j):=by
 intro n
 induction n with
 |zero=>intro j b;omega
 | succ n c=>
   intro j b
   have a:((Xa n).flatMap fun i=>[f i,k i,l i]).length=3*n:=by rw [XD];simp [XE];omega
   rw [XN,Xo]
   by_cases h:j<n
   . rw [Xh (by omega),Xh (by omega),Xh (by omega)];exact c j h
   . have:j=n:=by omega
     subst this
     rw [Xj (by omega),Xj (by omega),Xj (by omega),a]
     simp
theorem plA_len(n:Nat)(A:List Arc):(plA n A).length=3*A.length:=by
 unfold plA
 rw [XD]
 simp [XE]
 omega
theorem arcs_iter {h0:Hp} (d:h0.t.Sized h0.n) {W X m:Value} {b n:Nat} {A:List Arc} (I:Row h0 b [.int .i64 n,W,X,m] 1) (K:az h0 3 cE m A) (L:A.length<1000):
 Iter zM 241 [] [ptrTo b] h0 (fun c=>c=b\/ar m c) ((plA n A).map fun p=>[.agg ⟨jf p⟩]):=by
 refine rj fun Y J Z j h F s t=>?_
 refine enter (n:=44) (rs:=[]) rfl Tryz.e241 rfl rfl rfl (lbt rfl) ?_
 have l0:=s.load d (I.load1 (o:=0) rfl) (.inl rfl)
 have l3:=s.load d (I.load1 (o:=3) rfl) (.inl rfl)
 simp only [BS,LB,Nat.reduceLT,Nat.reduceEqDiff,Fm,l0,l3,K.lenq]
 refine cm (fun(i:Nat) k h=>i<=A.length/\ ∃F,ItS h0 (fun c=>c=b\/ar m c) h F/\J (3*i) h F/\k 0=.func (.yield Y) #[] #[]/\k 3=.int .i64 n/\k 11=m/\k 12=.int .i64 A.length/\k 13=.int .i64 i) (fun i=>A.length-i) ?_ 0 _ _ ?_
 . intro i ih k h ⟨hi,F,s,t,r0,r3,r11,r12,r13⟩
   by_cases hlt:i<A.length
   . have u:=s.sl d K (fun b h=>.inr h)
     obtain⟨c,o,q,y⟩:=u.ix (kd:=.i64) g8 hlt
     have S:=Si s.ok
     have w:aq .i64 ((i:Int)+1)=((i+1:Nat):Int):=by rw [wrap64]<;>omega
     have w1:aq .i64 1=1:=rfl
     have w2:aq .i64 2=2:=rfl
     have w3:aq .i64 3=3:=rfl
     have z:=flat3_at (fun(i:Nat)=>(⟨i,0,9,(A.getD i default).s,0,n⟩:Pl)) (fun(i:Nat)=>⟨i,1,9,(A.getD i default).t,0,n⟩) (fun(i:Nat)=>⟨i,2,10,(A.getD i default).w,0,2147483648⟩) A.length i hlt
     have B:A.getD i default=A[i]:=by simp [zN,hlt]
     simp only [BS,LB,Nat.reduceLT,Nat.reduceEqDiff,Fm,r11,r12,r13,aW,hlt,q,y]
     refine ah aA S ?_;clear S;intro h C S M
     simp only [BS,LB,Nat.reduceLT,Nat.reduceEqDiff,cE]
     refine aC (S.store (i:=0) rfl ?_ ?_ rfl rfl ?_ ono) ?_
     . exact(by exact Tryz.t99.2.1)
     . exact(by intro x e;cases e)
     . exact lbt rfl
     clear S;rintro h ⟨S,f⟩;clear f;simp only [LC,ag,lay,Xc,Xd,Nat.reduceAdd]at S
     simp only [BS,LB,Nat.reduceLT,Nat.reduceEqDiff,Nat.reduceAdd,Fm,r3,S.ld (b:=C) (o:=0) m0 rfl,S.ld (b:=C) (o:=1) m0 rfl,S.ld (b:=C) (o:=2) m0 rfl]
     refine ah (cB (by exact Tryz.t321.1) (by exact Tryz.e262E) (by decide) (by rfl)) S ?_;clear S;intro h g S N;simp only [LC,bq,bV,ag,Nat.reduceMul,Nat.reduceAdd,Xi,Xf,Xg,Xm]at S
     simp only [BS,LB,Nat.reduceLT,Nat.reduceEqDiff,Xk,Fm]
     have O:g∉F:=fun l=>by have:=s.lt _ l;omega
     have R:Row h g _ 1:=S.row m0
     have ad:=R.lt S.ok
     rw [aZ]
     simp only [BS,LB,Nat.reduceLT,Nat.reduceEqDiff,Int.reduceToNat,Int.reduceLE,Int.reduceLT,Xk,Fm,S.lds (b:=g) (o:=0) (n:=6) m0 (lbt rfl)]
     refine ah aA S ?_;clear S;intro h b7 S P
     simp only [BS,LB,Nat.reduceLT,Nat.reduceEqDiff,Xw,Xt,Xx]
     refine aC (S.store (i:=0) rfl ?_ ?_ rfl rfl ?_ ono) ?_
     . exact(by exact Tryz.t262.2.1)
     . exact(by intro x e;cases e)
     . exact lbt rfl
     clear S;rintro h ⟨S,f⟩;clear f;simp only [LC,ag,lay,Xc,Xd,Nat.reduceAdd]at S
     simp only [BS,LB,Nat.reduceLT,Nat.reduceEqDiff,Fm,r0,S.lds (b:=b7) (o:=0) (n:=6) m0 (lbt rfl)]
     have R:Row h g _ 1:=S.row m1
     refine gL j (s.gr S.gr) (j.gr _ _ _ _ t S.gr) (i:=3*i) (by rw [Xs,show(plA n A)[3*i]? =_ from z.1,B];simp [jf]) ?_ ?_ ?_
     . intro h2 F2 a Q D E
       have R0:=R
       replace R:Row h2 g _ 1:=R.of_get (D.get _ (R.lt S.ok) O)
       have G:g∉F2:=fun l=>by
        rcases E _ l with l|l
        . exact O l
        . have:=R0.lt S.ok;omega
       have S:=Si Q.ok
       simp only [BS,LB,Nat.reduceLT,Nat.reduceEqDiff,Int.reduceAdd,w1]
       rw [aZ]
       simp only [BS,LB,Nat.reduceLT,Nat.reduceEqDiff,Int.reduceToNat,Int.reduceLE,Int.reduceLT,Xk,Nat.reduceMul,Fm,R.load (o:=6) (n:=6) (lbt rfl)]
       refine ah aA S ?_;clear S;intro h b8 S T
       simp only [BS,LB,Nat.reduceLT,Nat.reduceEqDiff,XU,Xw,Xt,Xx]
       refine aC (S.store (i:=0) rfl ?_ ?_ rfl rfl ?_ ono) ?_
       . exact(by exact Tryz.t262.2.1)
       . exact(by intro x e;cases e)
       . exact lbt rfl
       clear S;rintro h ⟨S,f⟩;clear f;simp only [LC,ag,lay,Xc,Xd,Nat.reduceAdd]at S
       simp only [BS,LB,Nat.reduceLT,Nat.reduceEqDiff,Fm,r0,S.lds (b:=b8) (o:=0) (n:=6) m0 (lbt rfl)]
       replace R:=R.gr S.gr
       refine gL j (Q.gr S.gr) (j.gr _ _ _ _ a S.gr) (i:=3*i+1) (by rw [Xs,show(plA n A)[3*i+1]? =_ from z.2.1,B];simp [jf]) ?_ ?_ ?_
       . intro h3 F3 a U H af
         replace R:Row h3 g _ 1:=R.of_get (H.get _ (R.lt S.ok) G)
         have S:=Si U.ok
         simp only [BS,LB,Nat.reduceLT,Nat.reduceEqDiff,Int.reduceAdd,w2]
         rw [aZ]
         simp only [BS,LB,Nat.reduceLT,Nat.reduceEqDiff,Int.reduceToNat,Int.reduceLE,Int.reduceLT,Xk,Nat.reduceMul,Fm,R.load (o:=12) (n:=6) (lbt rfl)]
         refine ah aA S ?_;clear S;intro h b9 S V
         simp only [BS,LB,Nat.reduceLT,Nat.reduceEqDiff,XU,Xw,Xt,Xx]
         refine aC (S.store (i:=0) rfl ?_ ?_ rfl rfl ?_ ono) ?_
         . exact(by exact Tryz.t262.2.1)
         . exact(by intro x e;cases e)
         . exact lbt rfl
         clear S;rintro h ⟨S,f⟩;clear f;simp only [LC,ag,lay,Xc,Xd,Nat.reduceAdd]at S
         simp only [BS,LB,Nat.reduceLT,Nat.reduceEqDiff,Fm,r0,S.lds (b:=b9) (o:=0) (n:=6) m0 (lbt rfl)]
         refine gL j (U.gr S.gr) (j.gr _ _ _ _ a S.gr) (i:=3*i+2) (by rw [Xs,show(plA n A)[3*i+2]? =_ from z.2.2,B];simp [jf]) ?_ ?_ ?_
         . intro h4 F4 a s4 ai ak
           simp only [BS,LB,Nat.reduceLT,Nat.reduceEqDiff,Int.reduceAdd,w3]
           rw [aZ]
           simp only [BS,LB,Nat.reduceLT,Nat.reduceEqDiff,Int.reduceLT,r13,w]
           exact ih (i+1) _ _ (by omega) ⟨by omega,F4,s4,a,by simp [aa,r0],by simp [aa,r3],by simp [aa,r11],by simp [aa,r12],by simp [aa]⟩
         . intro r a _
           simp only [BS,LB,Nat.reduceLT,Nat.reduceEqDiff]
           exact jw rfl ⟨rfl,.inr (.inl ⟨_,rfl,a⟩)⟩
         . intro v r a
           simp only [BS]
           exact cZ (cq ⟨rfl,.inr (.inr ⟨_,rfl,a⟩)⟩)
       . intro r a _
         simp only [BS,LB,Nat.reduceLT,Nat.reduceEqDiff]
         exact jw rfl ⟨rfl,.inr (.inl ⟨_,rfl,a⟩)⟩
       . intro v r a
         simp only [BS]
         exact cZ (cq ⟨rfl,.inr (.inr ⟨_,rfl,a⟩)⟩)
     . intro r a _
       simp only [BS,LB,Nat.reduceLT,Nat.reduceEqDiff]
       exact jw rfl ⟨rfl,.inr (.inl ⟨_,rfl,a⟩)⟩
     . intro v r a
       simp only [BS]
       exact cZ (cq ⟨rfl,.inr (.inr ⟨_,rfl,a⟩)⟩)
   . simp only [BS,LB,Nat.reduceLT,r12,r13,aW,hlt]
     have:i=A.length:=by omega
     subst this
     exact dT (cq ⟨rfl,_,rfl,rfl,.inl ⟨_,F,rfl,by simpa [plA_len]using t⟩⟩)
 . exact⟨by omega,F,s,t,by simp [aa,cL],by simp [aa],by simp [aa],by simp [aa],by simp [aa]⟩
def Tryz.F0G:=aj t1<|aj t2<|aj t3<|aj t24<|aj t29<|aj Z0<|aj t45<|aj Z2<|t256
def Tryz.F0H:=aj t1<|aj t2<|aj t3<|aj t24<|aj t29<|aj Z0<|aj Z2<|t256
def Tryz.F0I:=aj t1<|aj t2<|aj t3<|aj t24<|aj t29<|aj Z0<|aj t45<|aj Z2<|t256
def Tryz.F0J:=aj t1<|aj t2<|aj t3<|aj t24<|aj t29<|aj Z0<|aj Z2<|t256
def Tryz.F0K:=aj t1<|aj t2<|aj t3<|aj t24<|aj t29<|aj Z0<|aj Z2<|t256
theorem look1_ok{h0:Hp}(d:h0.t.Sized h0.n){c:Gra}(a:Good c){e f i:Value}{b:Nat}(j:Row h0 b [.int .i64 c.nodes,e,f,i] 1):Ret zM 181 [ptrTo b] h0 fun v h'=>Gr h0 h'/\l8 0 h0.n v h':=by
 have S:=Si d
 have k:=a.n1
 have l:=a.n2
 refine ae (n:=5) (rs:=[.tmp 1]) rfl Tryz.e181 rfl rfl rfl (lbt rfl) ?_
 simp only [BS,LB,Nat.reduceLT,Nat.reduceEqDiff,F0G,j.load1 (o:=0) rfl]
 refine step_ret (one_ok S.ok (by omega) (by omega)) ?_;intro v h ⟨g,t⟩;replace S:=S.call g;clear g
 simp only [BS,LB,ac,Nat.reduceLT,Nat.reduceEqDiff]
 exact⟨S.gr,t⟩
theorem look2_ok{h0:Hp}(i:h0.t.Sized h0.n){a:Gra}(c:Good a){d e f:Value}(j:c8 h0 d e f a){b:Nat}(k:Row h0 b [.int .i64 a.nodes,d,e,f] 1):Ret zM 183 [ptrTo b] h0 fun v h'=>Gr h0 h'/\l8 0 h0.n v h':=by
 have S:=Si i
 refine ae (n:=4) (rs:=[.tmp 1]) rfl Tryz.e183 rfl rfl rfl (lbt rfl) ?_
 simp only [BS,LB,Nat.reduceLT,Nat.reduceEqDiff,F0H,k.load (o:=0) (n:=4) (lbt rfl)]
 refine step_ret (shapes_ok S.ok c j) ?_;intro v h ⟨g,t⟩;replace S:=S.call g;clear g
 simp only [BS,LB,ac,Nat.reduceLT,Nat.reduceEqDiff]
 exact⟨S.gr,t⟩
theorem look4_ok{h0:Hp}(i:h0.t.Sized h0.n){a:Gra}(c:Good a){d e f:Value}(j:c8 h0 d e f a){b:Nat}(k:Row h0 b [.int .i64 a.nodes,d,e,f] 1):Ret zM 187 [ptrTo b] h0 fun v h'=>Gr h0 h'/\l8 0 h0.n v h':=by
 have S:=Si i
 have l:=c.many
 refine ae (n:=6) (rs:=[.tmp 1]) rfl Tryz.e187 rfl rfl rfl (lbt rfl) ?_
 simp only [BS,LB,Nat.reduceLT,Nat.reduceEqDiff,F0I,k.load1 (o:=3) rfl,j.A.lenq]
 refine step_ret (one_ok S.ok (by omega) (by omega)) ?_;intro v h ⟨g,t⟩;replace S:=S.call g;clear g
 simp only [BS,LB,ac,Nat.reduceLT,Nat.reduceEqDiff]
 exact⟨S.gr,t⟩
theorem look3_ok{h0:Hp}(u:h0.t.Sized h0.n){d:Gra}(a:Good d){k l r:Value}(s:c8 h0 k l r d){b m:Nat}(w: ∀c,ar k c->c<m)(x: ∀c,ar l c->c<m)(y:Row h0 b [.int .i64 d.nodes,k,l,r] 1):Ret zM 185 [ptrTo b] h0 fun v h'=>Gr h0 h'/\l8 m h0.n v h':=by
 have S:=Si u
 have z:=a.n2
 have A:=a.lX
 have B:=a.lY
 refine ae (n:=4) (rs:=[.tmp 1]) rfl Tryz.e185 rfl rfl rfl (lbt rfl) ?_
 simp only [BS,LB,Nat.reduceLT,Nat.reduceEqDiff,F0J,y.load (o:=0) (n:=4) (lbt rfl)]
 refine step_ret (nodes_ok S.ok) ?_;intro v h ⟨g,b2,e,q2,R⟩;replace S:=S.call g;clear g
 subst e
 simp only [BS,LB,ac,Nat.reduceLT,Nat.reduceEqDiff]
 refine⟨S.gr,_,#[],#[ptrTo b2],_,_,rfl,Am S.ok R (s.X.gr S.gr) (s.Y.gr S.gr) (by omega) (by omega),fun p q=>?_,fun c f=>?_⟩
 . unfold plN at q
   simp only [List.mem_flatMap,XP,List.mem_cons,List.not_mem_nil,or_false]at q
   obtain⟨i,t,rfl|rfl⟩:=q
   . have:=a.cX d.X[i] (Xz t)
     simp only [zN,Xq t,XK];omega
   . have j:i<d.Y.length:=by omega
     have:=a.cY d.Y[i] (Xz j)
     simp only [zN,Xq j,XK];omega
 . rcases f with rfl|f|f
   . exact .inr q2
   . exact .inl (w c f)
   . exact .inl (x c f)
theorem look5_ok{h0:Hp}(s:h0.t.Sized h0.n){d:Gra}(a:Good d){l m f:Value}(t:c8 h0 l m f d){b q:Nat}(u: ∀c,ar f c->c<q)(w:Row h0 b [.int .i64 d.nodes,l,m,f] 1):Ret zM 188 [ptrTo b] h0 fun v h'=>Gr h0 h'/\l8 q h0.n v h':=by
 have S:=Si s
 have x:=a.many
 refine ae (n:=4) (rs:=[.tmp 1]) rfl Tryz.e188 rfl rfl rfl (lbt rfl) ?_
 simp only [BS,LB,Nat.reduceLT,Nat.reduceEqDiff,F0K,w.load (o:=0) (n:=4) (lbt rfl)]
 refine step_ret (arcs_ok S.ok) ?_;intro v h ⟨g,b2,e,q2,R⟩;replace S:=S.call g;clear g
 subst e
 simp only [BS,LB,ac,Nat.reduceLT,Nat.reduceEqDiff]
 refine⟨S.gr,_,#[],#[ptrTo b2],_,_,rfl,arcs_iter S.ok R (t.A.gr S.gr) (by omega),fun p j=>?_,fun c k=>?_⟩
 . unfold plA at j
   simp only [List.mem_flatMap,XP,List.mem_cons,List.not_mem_nil,or_false]at j
   obtain⟨i,r,h⟩:=j
   have:=a.arcs d.arcs[i] (Xz r)
   simp only [zN,Xq r,XK]at h
   rcases h with rfl|rfl|rfl<;>(simp only [];omega)
 . rcases k with rfl|k
   . exact .inr q2
   . exact .inl (u c k)
def Tryz.Fw:=aj t1<|aj t2<|aj t3<|aj t4<|aj t5<|aj t6<|aj Z3<|aj Z5<|aj t17<|aj Z20<|aj t20<|aj t24<|aj t29<|aj Z0<|aj t45<|aj Z2<|aj Z23<|aj t104<|aj t183<|aj r183<|aj t256<|aj t258<|aj t260<|aj Z17<|Z14
theorem look_ok {h0:Hp} (u:h0.t.Sized h0.n) {O:Gra} (k:Good O) {Z vy va:Value} (z:c8 h0 Z vy va O):Ret zM 100 [iO O Z vy va] h0 fun v h'=>Gr h0 h':=by
 have S:=Si u
 refine ae (n:=44) (rs:=[]) rfl Tryz.e100 rfl rfl rfl (lbt rfl) ?_
 simp only [BS,Nat.reduceLT,iO]
 refine ah (a8 (by intro x e;cases e)) S ?_;clear S;intro h b S ak;simp only [ag]at S
 simp only [BS,LB,Nat.reduceLT,Nat.reduceEqDiff]
 refine ah (cB (by exact Tryz.t260.1) (by exact Tryz.e258E) (by decide) (by rfl)) S ?_;clear S;intro h bs S ad;simp only [LC,bq,bV,ag,Nat.reduceMul,Nat.reduceAdd,Xi,Xf,Xg,Xm]at S
 simp only [BS,LB,Nat.reduceLT,Nat.reduceEqDiff,Xk,Fw]
 have P: ∀i,i<5-> ∃g a c,[Value.func (.func 181) #[] #[.pointer (some ⟨b,0,none⟩)],.func (.func 183) #[] #[.pointer (some ⟨b,0,none⟩)],.func (.func 185) #[] #[.pointer (some ⟨b,0,none⟩)],.func (.func 187) #[] #[.pointer (some ⟨b,0,none⟩)],.func (.func 188) #[] #[.pointer (some ⟨b,0,none⟩)]][i]? =some (.func (.func g) a c)/\
  ∀h',Gr h h'->Ret zM g (a.toList++c.toList) h' fun v j=>Gr h' j/\l8 h0.n h'.n v j:=by
  intro i hi
  have r:=S.row (b:=b) m1
  have q:=z.gr S.gr
  have Q: ∀h' v j,Gr h' j/\l8 0 h'.n v j->Gr h' j/\l8 h0.n h'.n v j:=by
   rintro h' v j ⟨a,R,a1,T,H,D,b1,b2,b3,A⟩
   exact⟨a,R,a1,T,H,D,b1,b2,b3,fun c s=>(A c s).elim (fun h=>by omega) .inr⟩
  match i,hi with
  |0,_=>exact⟨_,_,_,rfl,fun h' g=>pI (look1_ok g.ok k (r.gr g)) (Q h')⟩
  |1,_=>exact⟨_,_,_,rfl,fun h' g=>pI (look2_ok g.ok k (q.gr g) (r.gr g)) (Q h')⟩
  |2,_=>exact⟨_,_,_,rfl,fun h' g=>look3_ok g.ok k (q.gr g) (fun c s=>z.X.lt u s) (fun c s=>z.Y.lt u s) (r.gr g)⟩
  |3,_=>exact⟨_,_,_,rfl,fun h' g=>pI (look4_ok g.ok k (q.gr g) (r.gr g)) (Q h')⟩
  |4,_=>exact⟨_,_,_,rfl,fun h' g=>look5_ok g.ok k (q.gr g) (fun c s=>z.A.lt u s) (r.gr g)⟩
 have I:=S.row (b:=bs) m0
 have g0:=S.gr
 have B:=S.ok
 clear S z u
 revert P I
 generalize [Value.func (.func 181) #[] #[.pointer (some ⟨b,0,none⟩)],.func (.func 183) #[] #[.pointer (some ⟨b,0,none⟩)],.func (.func 185) #[] #[.pointer (some ⟨b,0,none⟩)],.func (.func 187) #[] #[.pointer (some ⟨b,0,none⟩)],.func (.func 188) #[] #[.pointer (some ⟨b,0,none⟩)]]=fs
 intro P I
 rename Hp=>C
 have al:=I.lt B
 have ax:=g0.n
 have S:=Si B
 refine qv (fun(i:Nat) J d h'=>i<=5/\ ∃f:List Nat,d=f.map pR/\St NoM C h' (dX f) []/\J 10=.slice (some ⟨bs,0,none⟩) 5 5/\J 11=.int .i64 5/\J 12=.int .i64 i) (fun i=>5-i) ?_ 0 _ _ _ ?_
 . clear S
   intro i ih J d h ⟨hi,f,K,S,r10,r11,r12⟩
   have w:aq .i64 ((i:Int)+1)=((i+1:Nat):Int):=by rw [wrap64]<;>omega
   by_cases hlt:i<5
   . obtain⟨g,a,c,U,r⟩:=P i hlt
     have Rl:=(I.gr S.gr).load1 U
     have l:(i:Int)<5:=by omega
     simp only [BS,LB,Nat.reduceLT,Nat.reduceEqDiff,Fw,r10,r11,r12,l,hlt,Rl]
     refine ah aA S ?_;clear S;intro h b2 S af
     simp only [BS,LB,Nat.reduceLT,Nat.reduceEqDiff]
     refine aC (aI S (i:=0) rfl ?_ ?_ ?_ ono) ?_
     . exact(by simp only [Fw])
     . exact(by exact bM)
     . exact Xe (lbt rfl)
     clear S;rintro h ⟨S,V⟩;clear V;simp only [LC,ag,lay,Xc,Xd,Nat.reduceAdd]at S
     simp only [BS,LB,Nat.reduceLT,Nat.reduceEqDiff]
     replace S:=S.drop1
     have kl: ∀b∈keys (dX f) [],b<h.n:=fun b m=>S.key_lt m
     refine step_ret (r _ S.gr) ?_;intro v h ⟨g,R,T,post,H,D,e,it,hps,hD⟩;replace S:=S.call g;clear g
     subst e
     simp only [BS]
     refine mF S (g:=R) (a:=T) (b:=post) (by simp [cu,aa]) rfl rfl ?_
     intro M E G t ay aL g2
     obtain⟨X,hX,t⟩: ∃X:gR,X=_/\St NoM C M ((G,.loop X)::(E,.dfr)::dX f) []:=⟨_,rfl,t⟩
     have hJ:Yld zM G (fun _ h' F=>St NoM C h' ((G,.loop X)::(E,.dfr)::dX f) []/\F=keys ((G,.loop X)::(E,.dfr)::dX f) []) (fun _ _=>False) (H.map fun p=>[.agg ⟨jf p⟩]):=by
      refine⟨?_,?_,fun _ _ h=>h.elim,?_⟩
      . rintro i h F ⟨S,rfl⟩;exact⟨S.ok,fun b m=>S.key_lt m⟩
      . rintro i h F h' ⟨S,rfl⟩ g;exact⟨S.call g,rfl⟩
      . rintro i x h F hx ⟨S,rfl⟩
        obtain⟨p,hp,rfl⟩: ∃p∈H,x=[.agg ⟨jf p⟩]:=by
         rw [Xs,Option.map_eq_some_iff]at hx
         obtain⟨p,C,M⟩:=hx
         exact⟨p,Xr C,M.symm⟩
        obtain⟨p1,p2⟩:=hps p hp
        have W: ¬p.n<p.lo:=by omega
        have Y: ¬p.hi<=p.n:=by omega
        subst hX
        refine mw (S.get m0) (by rw [Tryz.e100];rfl) rfl ?_
        have S0:=S
        replace S:=S.base
        simp only [BS,Fw]
        refine ah aA S ?_;clear S;intro h A S ai
        simp only [BS,LB,Nat.reduceLT,Nat.reduceEqDiff,jf]
        refine aC (S.store (i:=0) rfl ?_ ?_ rfl rfl ?_ ono) ?_
        . exact(by exact Tryz.t262.2.1)
        . exact(by intro x e;cases e)
        . exact lbt rfl
        clear S;rintro h ⟨S,V⟩;clear V;simp only [LC,ag,lay,Xc,Xd,Nat.reduceAdd]at S
        simp only [BS]
        refine kz S (i:=1) rfl rfl rfl rfl rfl ?_
        clear S;intro h S
        simp only [BS,LB,Nat.reduceLT,Nat.reduceEqDiff,Fw,W,Y,S.ld (b:=A) (o:=3) m0 rfl,S.ld (b:=A) (o:=4) m0 rfl,S.ld (b:=A) (o:=5) m0 rfl]
        refine iu S (i:=1) rfl ?_
        clear S;intro h S
        exact .inl ⟨rfl,_,⟨S0.rebase S.drop1,rfl⟩,S.fr,S.drop1.key_new⟩
     refine eW (yD it hJ (h:=M) (F:=keys ((G,.loop _)::(E,.dfr)::dX f) []) g2.fr (fun b m hlt=>?_) ⟨t,rfl⟩) fun o rc h' y=>ou y ?_
     . intro K
       have N:=t.key_own m
       rcases hD b K with hh|hh
       . rcases N with N|N
         . omega
         . exact N
       . rcases List.mem_cons.1 m with rfl|m
         . omega
         . rcases List.mem_cons.1 m with rfl|m
           . omega
           . have:=kl b m;omega
     . rintro F ⟨S,rfl⟩
       subst hX
       refine⟨_,S.get m0,Nat.zero_ne_one,?_⟩
       replace S:=S.dead
       show Run _ _ _ _ _ _ _ _
       simp only [BS,LB,Nat.reduceLT,Nat.reduceEqDiff,r12,w]
       exact ih (i+1) _ _ _ (by omega) ⟨by omega,E::f,by rw [K];rfl,S,by simp [aa,r10],by simp [aa,r11],by simp [aa]⟩
   . have l: ¬(i:Int)<5:=by omega
     simp only [BS,LB,Nat.reduceLT,r11,r12,l]
     subst K
     refine dT (ns f h (L:=[]) (by rw [XH];exact S) fun h' t=>⟨rfl,_,rfl,g0.trans t.gr⟩)
 . exact⟨by omega,[],rfl,S,by simp [aa],by simp [aa],by simp [aa]⟩
end Go.Ab
end
section
namespace Go.Ab
theorem az.form{α:Type}{h:Hp}{k:Nat}{enc:α->List Value}{v:Value}{xs:List α}(s:az h k enc v xs): ∃a n c,v=.slice a n c:=by
 rcases s with⟨rfl,_⟩|⟨b,o,s,c,rfl,_⟩<;>exact⟨_,_,_,rfl⟩
section
variable{M:Nat->Prop}{h0 h:Hp}{E:Env}{L:List (Nat×Ob)}{G:List GL}
def WrK{α:Type}(h:Hp)(k:Nat)(enc:α->List Value)(w:Value)(l:List α):Prop:=l≠ []-> ∃b,w=.slice (some ⟨b,0,some k⟩) l.length l.length/\Row h b (l.flatMap enc) 1
theorem WrK.mo{α:Type}{M:Nat->Prop}{h h':Hp}{k:Nat}{enc:α->List Value}{w:Value}{l:List α}(r:WrK h k enc w l)(g:Mo M h h')(a: ∀b,ar w b-> ¬M b):WrK h' k enc w l:=
 fun c=>by obtain⟨b,e,k⟩:=r c;exact⟨b,e,g.has (o:=.row _ 1) k (a b (by rw [e];rfl))⟩
theorem St.cloneW{α:Type}{enc:α->List Value}{ys:List α}(S:St M h0 h L G){t g e:TypeId}{a k md:Nat}{y:List Value}{b:Nat}{x:Value}(l:E.und t=some (.slice e))(m:er E e a k y)(o:0<a)
 (p:dw E g=some false) (q:az h k enc x ys) (d: ∀x,(enc x).length=k) (r:0<k) (f:(ys.length*k)*(a+1)<=70368744177664) {ts:List TypeId}
 (s:Row h b [] md):
 ∃h' v',cM E h (t::g::ts) (.slice (some ⟨b,0,none⟩) 0 0) x=some (h',v')/\St M h0 h' L G/\Gr h h'/\az h' k enc v' ys/\(∀c,ar v' c->c=b\/h.n<=c)/\WrK h' k enc v' ys:=by
 obtain⟨h',v',u,z,A,B,C⟩:=S.cloneSl (enc:=enc) (xs:=[]) l m o p q d r (by simpa using f) (ts:=ts) (b:=b) (md:=md) (by simpa using s)
 refine⟨h',v',u,z,A,by simpa using B,C,fun i=>?_⟩
 obtain⟨D,F,v,H⟩:=S.clone l m o p q.src (bw d ys).symm (n:=0) (by simp) r (by rw [bw d];simpa using f) (ts:=ts) s
 have j:cM E h (t::g::ts) (.slice (some ⟨b,0,none⟩) 0 0) x=some (h',v'):=u
 rw [j]at v
 cases v
 rcases H with⟨I,_⟩|⟨w,J,T⟩
 . exact absurd (List.length_eq_zero_iff.1 I) i
 . refine⟨w,by rw [J,Xf],?_⟩
   have:=T.row (b:=w) m0
   simpa using this
end
end Go.Ab

end
section
namespace Go.Ab
open Go.Proofs
set_option maxRecDepth 10000
def Tryz.F0L:=aj t1<|aj t2<|aj t3<|aj t4<|aj t5<|aj t20<|aj t41<|aj Z23<|aj t104<|aj t183<|r183
def Tryz.FS:=aj t1<|aj t2<|aj t3<|aj t24<|aj t29<|aj Z0<|aj t41<|Z2
def Tryz.F0b:=aj t1<|aj t2<|aj t3<|aj t4<|t24
def Tryz.F0c:=aj t1<|aj t2<|aj t3<|aj t4<|aj t29<|Z2
theorem check1_ok{h0:Hp}(a:h0.t.Sized h0.n){b:Nat}:du zM 99 [ptrTo b] none h0 fun o c h'=>(∃v,o=.ret v)/\c=none/\Gr h0 h':=by
 have S:=Si a
 refine enter (n:=17) (rs:=[]) rfl Tryz.e99 rfl rfl rfl (lbt rfl) ?_
 simp only [BS,LB,Nat.reduceLT,Nat.reduceEqDiff,F0L]
 exact dT (cq ⟨rfl,_,rfl,⟨_,rfl⟩,rfl,S.gr⟩)
theorem check_ok{h0:Hp}(p:h0.t.Sized h0.n){c:Gra}(d:Good c){f j k:Value}(q:c8 h0 f j k c):bI zM 43 [iO c f j k] h0 .nilIface:=by
 have S:=Si p
 refine ae (n:=6) (rs:=[.cell 2 41]) rfl Tryz.e43 rfl rfl rfl (lbt rfl) ?_
 simp only [BS,Nat.reduceLT,iO]
 refine ah (a8 (by intro x e;cases e)) S ?_;clear S;intro h b S r;simp only [ag]at S
 simp only [BS,FS]
 refine ah aA S ?_;clear S;intro h s S m
 simp only [BS,LB,Nat.reduceLT,Nat.reduceEqDiff,FS,S.lds (b:=b) (o:=0) (n:=4) m1 (lbt rfl)]
 refine step_ret (look_ok S.ok d (q.gr S.gr)) ?_;intro v h g;replace S:=S.call g;clear g
 simp only [BS,LB,Nat.reduceLT,Nat.reduceEqDiff]
 refine aC (aI S (i:=0) rfl ?_ ?_ ?_ ono) ?_
 . exact(by simp only [FS])
 . exact(by exact fl_nili)
 . exact Xe (lbt rfl)
 clear S;rintro h ⟨S,t⟩;clear t;simp only [LC,ag,lay,Xc,Xd,Nat.reduceAdd]at S
 simp only [BS]
 refine gW (un_fn (eW (check1_ok S.ok) fun o u w ⟨a,b,g⟩=>⟨a,b,cq ⟨rfl,?_⟩⟩))
 replace S:=S.call g
 have l:=S.ld (b:=s) (o:=0) m0 rfl
 exact⟨_,rF (by decide) (by simp only [aO,ab,Nat.reduceEqDiff,reduceIte];exact zT Tryz.t41.1 l),rfl,S.gr⟩
theorem tQ{h0:Hp}(f:h0.t.Sized h0.n){v:Value}{xs:List Int}(i:az h0 1 (encI .i64) v xs)(p:xs.length<1000000):Ret zM 105 [v] h0 fun r h'=>Gr h0 h'/\az h' 1 (encI .i64) r xs/\ ∀c,ar r c->h0.n<=c:=by
 have S:=Si f
 rcases i with⟨rfl,rfl⟩|⟨b,o,s,c,rfl,j,k⟩
 . refine ae (n:=8) (rs:=[.tmp 2]) rfl Tryz.e105 rfl rfl rfl (lbt rfl) ?_
   simp only [BS,LB,ac,Nat.reduceLT,Nat.reduceEqDiff,F0b]
   exact⟨S.gr,.inl ⟨rfl,rfl⟩,fun c a=>a.elim⟩
 . refine ae (n:=8) (rs:=[.tmp 2]) rfl Tryz.e105 rfl rfl rfl (lbt rfl) ?_
   simp only [BS,LB,Nat.reduceLT,Nat.reduceEqDiff,F0b]
   refine ah (cB (by exact Tryz.t24.1) (by exact Tryz.e2E) (by decide) (by rfl)) S ?_;clear S;intro h q S d;simp only [LC,bq,bV,ag,Nat.reduceMul,Nat.reduceAdd,Xi,Xf,Xg,Xm]at S
   simp only [BS,LB,Nat.reduceLT,Nat.reduceEqDiff]
   refine gf (S.cloneSl (enc:=encI .i64) (xs:=[]) Tryz.t24.1 Tryz.e2E (by decide) Tryz.t24.2.2.2.2.2 (.inr ⟨b,o,s,c,rfl,j,S.old k (fun h=>h)⟩) (fun x=>rfl) (by decide) (by simp only [List.length_nil,Xf];omega) (S.row m0)) ?_
   rintro h' v ⟨l,g,m,a⟩
   simp only [BS,LB,ac,Nat.reduceLT,Nat.reduceEqDiff]
   refine⟨l.gr,by simpa using m,fun c h=>(a c h).elim (fun e=>by omega) (fun e=>Xl S.fr.n e)⟩
theorem zf{h0:Hp}(f:h0.t.Sized h0.n){v:Value}{xs:List Arc}(i:az h0 3 (cE) v xs)(p:xs.length<1000000):Ret zM 106 [v] h0 fun r h'=>Gr h0 h'/\az h' 3 (cE) r xs/\(∀c,ar r c->h0.n<=c)/\WrK h' 3 cE r xs:=by
 have S:=Si f
 rcases i with⟨rfl,rfl⟩|⟨b,o,s,c,rfl,j,k⟩
 . refine ae (n:=8) (rs:=[.tmp 2]) rfl Tryz.e106 rfl rfl rfl (lbt rfl) ?_
   simp only [BS,LB,ac,Nat.reduceLT,Nat.reduceEqDiff,F0c]
   exact⟨S.gr,.inl ⟨rfl,rfl⟩,fun c a=>a.elim,fun h=>absurd rfl h⟩
 . refine ae (n:=8) (rs:=[.tmp 2]) rfl Tryz.e106 rfl rfl rfl (lbt rfl) ?_
   simp only [BS,LB,Nat.reduceLT,Nat.reduceEqDiff,F0c]
   refine ah (cB (by exact Tryz.t29.1) (by exact Tryz.e99E) (by decide) (by rfl)) S ?_;clear S;intro h q S d;simp only [LC,bq,bV,ag,Nat.reduceMul,Nat.reduceAdd,Xi,Xf,Xg,Xm]at S
   simp only [BS,LB,Nat.reduceLT,Nat.reduceEqDiff]
   refine gf (S.cloneW (enc:=cE) (ys:=xs) Tryz.t29.1 Tryz.e99E (by decide) Tryz.t29.2.2.2.2.2 (.inr ⟨b,o,s,c,rfl,j,S.old k (fun h=>h)⟩) (fun x=>rfl) (by decide) (by omega) (S.row m0)) ?_
   rintro h' v ⟨l,g,m,a,w⟩
   simp only [BS,LB,ac,Nat.reduceLT,Nat.reduceEqDiff]
   exact⟨l.gr,m,fun c h=>(a c h).elim (fun e=>by omega) (fun e=>Xl S.fr.n e),w⟩
def Tryz.FG:=aj t1<|aj t2<|aj t3<|aj t4<|aj t5<|aj t22<|aj t36<|aj t38<|r38
structure mH(h:Hp)(bd:Nat)(vB:Value)(xs:List Int)(a:Nat):Prop where
 sl:az h 1 (encI .u8) vB xs
 ne: ¬ar vB bd
 few:xs.length<1000000
 at_:a<100000
def drV(xs:List Int)(n a:Nat):Nat:=if h:xs.length=0 then 0 else(aq .u8 (xs[a%xs.length]'(Nat.mod_lt _ (by omega))+aq .u8 (aq .i64 ((a:Int).tdiv (xs.length:Int))))%(n:Int)).toNat
theorem wZ{h0:Hp}(A:h0.t.Sized h0.n){d a n:Nat}{f:Value}{xs:List Int}(m:Row h0 d [f,.int .i64 a] 1)(B:mH h0 d f xs a)(J:1<=n)(C:n<1000):
 Ret zM 41 [ptrTo d,.int .i64 n] h0 fun v h'=>Mo (· =d) h0 h'/\ ∃r w:Nat,v=.int .i64 r/\r<n/\w<=a+1/\Row h' d [f,.int .i64 w] 1/\r=drV xs n a:=by
 have S:=St.init1 A (o:=.row [f,.int .i64 a] 1) m
 obtain⟨p,t,K,L⟩:=B
 have M:=p.fl
 have D:aq .i64 ((a:Int)+1)=((a+1:Nat):Int):=by rw [wrap64]<;>omega
 have E:aq .i64 (((a+1:Nat):Int)-1)=(a:Int):=by rw [wrap64]<;>omega
 have F: ¬(n:Int)<1:=by omega
 by_cases g:xs.length=0
 . have s:(xs.length:Int)=0:=by omega
   refine ae (n:=55) (rs:=[.tmp 4]) rfl Tryz.e41 rfl rfl rfl (lbt rfl) ?_
   simp only [BS,LB,ac,Nat.reduceLT,Nat.reduceEqDiff,FG,p.lenq,s,S.ld (b:=d) (o:=0) m0 rfl]
   exact⟨S.fr,0,a,rfl,by omega,by omega,S.row m0,by unfold drV;rw [dif_pos g]⟩
 . have s: ¬(xs.length:Int)=0:=by omega
   have j:a%xs.length<xs.length:=Nat.mod_lt _ (by omega)
   have G:(a:Int).tmod (xs.length:Int)=((a%xs.length:Nat):Int):=by rw [XB (by omega)];exact(Int.natCast_emod _ _).symm
   refine ae (n:=55) (rs:=[.tmp 4]) rfl Tryz.e41 rfl rfl rfl (lbt rfl) ?_
   simp only [BS,LB,Nat.reduceLT,Nat.reduceEqDiff,FG,p.lenq,s,F,D,S.ld (b:=d) (o:=0) m0 rfl,S.ld (b:=d) (o:=1) m0 rfl]
   refine aC (aI S (i:=0) rfl ?_ ?_ ?_ ono) ?_
   . exact(by simp only [FG])
   . exact(by exact bM)
   . exact Xe (lbt rfl)
   clear S;rintro h ⟨S,H⟩;clear H;simp only [LC,ag,lay,Xc,Xd,Nat.reduceAdd]at S
   have k:az h 1 (encI .u8) f xs:=p.mo S.fr (fun b I e=>t (e▸I))
   obtain⟨c,o,l,u⟩:=k.ix (kd:=.i64) (eR _) j
   have x:(xs.length:Int)≠0:=s
   have y:(n:Int)≠0:=by omega
   simp only [BS]
   refine aE (aJ rfl) (q:=0) (ps:=[]) (by kernel_rfl) ?_
   simp only [BS,LB,iP,cd,iI,cls,ac,Nat.reduceLT,Nat.reduceEqDiff,Nat.reduceAdd,Nat.reducePow,Nat.reduceDiv,Nat.reduceMod,Nat.reduceLeDiff,FG,k.lenq,E,mO x,b_quo x,mO y,G,l,u,encI,S.ld (b:=d) (o:=0) m0 rfl,S.ld (b:=d) (o:=1) m0 rfl]
   have m:(aq .i64 (aq .u8 (xs[a%xs.length]+aq .u8 (aq .i64 ((a:Int).tdiv (xs.length:Int)))))).tmod (n:Int)=((drV xs n a:Nat):Int)/\drV xs n a<n:=by
    unfold drV
    rw [dif_neg g]
    generalize xs[a%xs.length]+aq .u8 (aq .i64 ((a:Int).tdiv (xs.length:Int)))=z
    have N:=wrap8 z
    rw [wrap64 (by omega) (by omega),XB (by omega)]
    have O:=Int.emod_nonneg (aq .u8 z) y
    have P:=Int.emod_lt_of_pos (aq .u8 z) (show(0:Int)<n by omega)
    exact⟨by omega,by omega⟩
   rw [m.1]
   exact⟨S.fr,_,a+1,rfl,m.2,XC _,S.row m0,rfl⟩
theorem gH{h0:Hp}(h:h0.t.Sized h0.n){b a n:Nat}{d:Value}{xs:List Int}(i:Row h0 b [d,.int .i64 a] 1)(j:mH h0 b d xs a)(k:1<=n)(g:n<1000):
 Ret zM 41 [ptrTo b,.int .i64 n] h0 fun v h'=>Mo (· =b) h0 h'/\ ∃r c:Nat,v=.int .i64 r/\r<n/\c<=a+1/\Row h' b [d,.int .i64 c] 1:=
 (wZ h i j k g).mono fun v h' ⟨f,r,c,e,l,m,o,_⟩=>⟨f,r,c,e,l,m,o⟩
theorem mH.mo{h h':Hp}{c:Nat}{g:Value}{xs:List Int}{a i:Nat}(d:mH h c g xs a)(f:Mo (· =c) h h')(j:i<100000):mH h' c g xs i:=
 ⟨d.sl.mo f (fun b k e=>d.ne (e▸k)),d.ne,d.few,j⟩
theorem mH.gr{h h':Hp}{b:Nat}{c:Value}{xs:List Int}{a:Nat}(d:mH h b c xs a)(g:Gr h h'):mH h' b c xs a:=⟨d.sl.gr g,d.ne,d.few,d.at_⟩
theorem uS{h0:Hp}(x:h0.t.Sized h0.n){d a:Nat}{e:Value}{xs:List Int}(y:Row h0 d [e,.int .i64 a] 1)(s:mH h0 d e xs a)(C:a+2<100000):
 Ret zM 42 [ptrTo d] h0 fun v h'=>Mo (· =d) h0 h'/\ ∃r t:Nat,v=.int .i64 r/\r<=2147483647/\t<=a+2/\Row h' d [e,.int .i64 t] 1:=by
 have S:=St.init1 x (o:=.row [e,.int .i64 a] 1) y
 refine ae (n:=24) (rs:=[.tmp 2]) rfl Tryz.e42 rfl rfl rfl (lbt rfl) ?_
 simp only [BS,LB,Nat.reduceLT,Nat.reduceEqDiff]
 refine step_ret (gH (n:=12) S.ok (S.row m0) s (by omega) (by omega)) ?_
 rintro v h ⟨f,r,u,rfl,z,A,B⟩
 replace S:=S.call1 (i:=0) rfl f (o':=.row _ _) B
 have c:mH h d e xs u:=s.mo f (by omega)
 simp only [LC]at S
 by_cases p:(r:Int)<3
 . simp only [BS,LB,ac,Nat.reduceLT,Nat.reduceEqDiff,p]
   exact⟨S.fr,0,u,rfl,by omega,by omega,S.row m0⟩
 . by_cases q:(r:Int)<10
   . simp only [BS,LB,Nat.reduceLT,Nat.reduceEqDiff,p,q]
     refine step_ret (gH (n:=9) S.ok (S.row m0) c (by omega) (by omega)) ?_
     rintro v h ⟨f,b,g,rfl,j,k,l⟩
     replace S:=S.call1 (i:=0) rfl f (o':=.row _ _) l
     simp only [LC]at S
     have m:aq .i64 (1+(b:Int))=((1+b:Nat):Int):=by rw [wrap64]<;>omega
     simp only [BS,LB,ac,Nat.reduceLT,Nat.reduceEqDiff,m]
     exact⟨S.fr,1+b,g,rfl,by omega,by omega,S.row m0⟩
   . by_cases w:(r:Int)<11
     . simp only [BS,LB,Nat.reduceLT,Nat.reduceEqDiff,p,q,w]
       refine step_ret (gH (n:=20) S.ok (S.row m0) c (by omega) (by omega)) ?_
       rintro v h ⟨f,b,g,rfl,j,k,l⟩
       replace S:=S.call1 (i:=0) rfl f (o':=.row _ _) l
       simp only [LC]at S
       have m:aq .i64 (100*(b:Int))=((100*b:Nat):Int):=by rw [wrap64]<;>omega
       simp only [BS,LB,ac,Nat.reduceLT,Nat.reduceEqDiff,m]
       exact⟨S.fr,100*b,g,rfl,by omega,by omega,S.row m0⟩
     . simp only [BS,LB,Nat.reduceLT,Nat.reduceEqDiff,p,q,w]
       refine step_ret (gH (n:=2) S.ok (S.row m0) c (by omega) (by omega)) ?_
       rintro v h ⟨f,b,g,rfl,j,k,l⟩
       replace S:=S.call1 (i:=0) rfl f (o':=.row _ _) l
       simp only [LC]at S
       have m:aq .i64 (2147483647-(b:Int))=((2147483647-b:Nat):Int):=by rw [wrap64]<;>omega
       simp only [BS,LB,ac,Nat.reduceLT,Nat.reduceEqDiff,m]
       exact⟨S.fr,2147483647-b,g,rfl,by omega,by omega,S.row m0⟩
def Tryz.F7:=aj t1<|aj t2<|aj t3<|aj t4<|aj t5<|aj t6<|aj Z3<|aj Z5<|aj t9<|aj t10<|aj t11<|aj t12<|aj Z15<|aj Z18<|aj t15<|aj t16<|aj t17<|aj Z21<|aj Z20<|aj t20<|aj t21<|aj t22<|aj t23<|aj t24<|aj t29<|aj Z0<|aj t36<|aj t38<|aj r38<|aj Z2<|aj t181<|aj t271<|aj t358<|aj Z19<|aj t372<|aj t374<|aj t376<|aj t377<|aj t378<|aj t379<|Z14
def ints(l:List Int):List Value:=l.flatMap (encI .i64)
theorem dr(l:List Int):(ints l).length=l.length:=by unfold ints;rw [bw (k:=1) (fun _=>rfl)];omega
theorem oe(l m:List Int):ints (l++m)=ints l++ints m:=by unfold ints;rw [Xo]
theorem raw0_ok {h0:Hp} (ok:h0.t.Sized h0.n) {B:Nat} {V:Value} {xs:List Int} (hr:Row h0 B [V,.int .i64 ((0:Nat):Int)] 1) (P:mH h0 B V xs 0):
 Ret zM 9 [ptrTo B] h0 fun v h'=>Mo (· =B) h0 h'/\ ∃γ vx vy va,v=iO γ vx vy va/\Good γ/\γ.nodes=1+drV xs 12 0/\c8 h' vx vy va γ/\ ∀c,(ar vx c\/ar vy c\/ar va c)->h0.n<=c:=by
 have S:=St.init1 ok (o:=.row [V,.int .i64 ((0:Nat):Int)] 1) hr
 have b4:=hr.lt ok
 refine ae (n:=117) (rs:=[.cell 2 31]) rfl Tryz.e9 rfl rfl rfl (lbt rfl) ?_
 simp only [BS,F7]
 refine ah aA S ?_;clear S;intro h L S bP
 simp only [BS,LB,Nat.reduceLT,Nat.reduceEqDiff]
 refine step_ret (wZ (n:=12) (a:=0) S.ok (S.row m1) (P.mo S.fr (by omega)) (by omega) (by omega)) ?_
 rintro v h ⟨f,r,a0,rfl,b5,b6,R,b7⟩
 replace S:=S.call1 (i:=1) rfl f (o':=.row _ _) R
 simp only [LC]at S
 have w1:aq .i64 (1+(r:Int))=((1+r:Nat):Int):=by rw [wrap64]<;>omega
 simp only [BS,LB,Nat.reduceLT,Nat.reduceEqDiff,Nat.reduceAdd,F7,w1]
 refine ah aA S ?_;clear S;intro h s S b0
 simp only [BS,LB,Nat.reduceLT,Nat.reduceEqDiff]
 refine aC (S.store (i:=0) rfl ?_ ?_ rfl rfl ?_ ono) ?_
 . exact(by exact Tryz.t7.2.1)
 . exact(by intro x e;cases e)
 . exact lbt rfl
 clear S;rintro h ⟨S,M⟩;clear M;simp only [LC,ag,lay,Xc,Xd,Nat.reduceAdd]at S
 simp only [BS]
 replace S:=((S.nilG (k:=3)).nilG (k:=1)).nilG (k:=1)
 generalize hN:1+r=N at S
 refine cm (fun(i:Nat) g h=>i<=N/\ ∃(a:Nat) (D G:Value) (X Y:List Int),a<=1+2*i/\X.length=i/\Y.length=i/\(∀x∈X,-2147483648<=x/\x<=2147483647)/\(∀x∈Y,-2147483648<=x/\x<=2147483647)/\
  St (· =B) h0 h [(s,.row [.int .i64 N,D,G,.slice none 0 0] 1),(L,.row [.int .i64 0,.slice none 0 0,.slice none 0 0,.slice none 0 0] 1),(B,.row [V,.int .i64 a] 1)] [(D,1,ints X),(G,1,ints Y),(.slice none 0 0,3,[])]/\
  g 0=ptrTo B/\g 2=ptrTo L/\g 3=ptrTo s/\g 4=.int .i64 i) (fun i=>N-i) ?_ 0 _ _ ?_
 . clear S
   intro i T g h ⟨hi,a,D,G,X,Y,ha,lX,lY,cX,cY,S,r,y,d,r4⟩
   by_cases hlt:i<N
   . simp only [BS,LB,Nat.reduceLT,Nat.reduceEqDiff,F7,d,r4,aW,hlt,S.ld (b:=s) (o:=0) m0 rfl]
     refine aE (aJ rfl) (q:=32) (ps:=[(1,3)]) (by kernel_rfl) ?_
     simp only [BS,LB,cls,Nat.reduceLT,Nat.reduceEqDiff,Nat.reduceAdd,Nat.reducePow,Nat.reduceDiv,Nat.reduceMod,Nat.reduceLeDiff,F7,r,d,S.ld (b:=s) (o:=1) m0 rfl]
     refine cV (gH (n:=9) (a:=a) S.ok (S.row m2) (P.mo S.fr (by omega)) (by omega) (by omega)) ?_
     rintro v h ⟨f,r1,a1,rfl,b8,bk,R⟩
     have hl:=S.leaves (c:=s) m0 f (by omega)
     replace S:=S.call1 (i:=2) rfl f (o':=.row _ _) R
     simp only [LC]at S
     have w9:aq .i64 ((r1:Int)-3)=(r1:Int)-3:=by rw [wrap64]<;>omega
     simp only [BS,LB,cls,Nat.reduceLT,Nat.reduceEqDiff,Nat.reduceAdd,Nat.reducePow,Nat.reduceDiv,Nat.reduceMod,Nat.reduceLeDiff,w9]
     refine df (cB (by exact Tryz.t24.1) (by exact Tryz.e2E) (by decide) (by rfl)) S ?_;clear S;intro h W S J ad;simp only [LC,bq,bV,ag,Nat.reduceMul,Nat.reduceAdd,Xi,Xf,Xg,Xm]at S
     simp only [BS,LB,cls,Nat.reduceLT,Nat.reduceEqDiff,Nat.reduceAdd,Nat.reducePow,Nat.reduceDiv,Nat.reduceMod,Nat.reduceLeDiff]
     refine jE (S.grow (j:=0) (m:=1) (new:=ints [(r1:Int)-3]) rfl Tryz.t24.1 Tryz.e2E (by decide) Tryz.t24.2.2.2.2.2 (by simp only [aP];rw [S.lds (b:=W) (o:=0) (n:=1*1) m0 (lbt rfl)];rfl) rfl (by decide) rfl (by rw [dr,dr];simp;omega)) ?_
     clear S
     rintro h ax S
     simp only [LC]at S
     replace S:=S.drop1
     rw [<-oe]at S
     have fX:Fl ax:=(S.gown _ m0).1.fl
     simp only [BS,LB,cls,Nat.reduceLT,Nat.reduceEqDiff,Nat.reduceAdd,Nat.reducePow,Nat.reduceDiv,Nat.reduceMod,Nat.reduceLeDiff,F7,d]
     refine dP (aI S (i:=0) rfl ?_ ?_ ?_ ono) ?_
     . exact(by simp only [F7])
     . exact(by assumption)
     . exact Xe (lbt rfl)
     clear S;rintro h ⟨S,M⟩;clear M;simp only [LC,ag,lay,Xc,Xd,Nat.reduceAdd]at S
     simp only [BS,Nat.reduceAdd]
     refine⟨by simp only [bj,bA,aS,bK,aY,ne_eq,not_false_eq_true,bJ,cb,a9,aX,cu,cR,aO,Nat.reduceLT,Nat.reduceEqDiff,reduceIte,Xu,d,ab,au hl],?_⟩
     refine aE (aJ rfl) (q:=16) (ps:=[(1,3)]) (by kernel_rfl) ?_
     simp only [BS,LB,cls,Nat.reduceLT,Nat.reduceEqDiff,Nat.reduceAdd,Nat.reducePow,Nat.reduceDiv,Nat.reduceMod,Nat.reduceLeDiff,F7,r,d,S.ld (b:=s) (o:=2) m0 rfl]
     clear f hl R
     refine cV (gH (n:=7) (a:=a1) S.ok (S.row m2) (P.mo S.fr (by omega)) (by omega) (by omega)) ?_
     rintro v h ⟨f,H,a2,rfl,bl,bm,R⟩
     have hl:=S.leaves (c:=s) m0 f (by omega)
     replace S:=S.call1 (i:=2) rfl f (o':=.row _ _) R
     simp only [LC]at S
     simp only [BS,LB,cls,Nat.reduceLT,Nat.reduceEqDiff,Nat.reduceAdd,Nat.reducePow,Nat.reduceDiv,Nat.reduceMod,Nat.reduceLeDiff]
     refine df (cB (by exact Tryz.t24.1) (by exact Tryz.e2E) (by decide) (by rfl)) S ?_;clear S;intro h W S J ad;simp only [LC,bq,bV,ag,Nat.reduceMul,Nat.reduceAdd,Xi,Xf,Xg,Xm]at S
     simp only [BS,LB,cls,Nat.reduceLT,Nat.reduceEqDiff,Nat.reduceAdd,Nat.reducePow,Nat.reduceDiv,Nat.reduceMod,Nat.reduceLeDiff]
     refine jE (S.grow (j:=1) (m:=1) (new:=ints [(H:Int)]) rfl Tryz.t24.1 Tryz.e2E (by decide) Tryz.t24.2.2.2.2.2 (by simp only [aP];rw [S.lds (b:=W) (o:=0) (n:=1*1) m0 (lbt rfl)];rfl) rfl (by decide) rfl (by rw [dr,dr];simp;omega)) ?_
     clear S
     rintro h ay S
     simp only [LC]at S
     replace S:=S.drop1
     rw [<-oe]at S
     have fY:Fl ay:=(S.gown _ m1).1.fl
     simp only [BS,LB,cls,Nat.reduceLT,Nat.reduceEqDiff,Nat.reduceAdd,Nat.reducePow,Nat.reduceDiv,Nat.reduceMod,Nat.reduceLeDiff,F7,d]
     refine dP (aI S (i:=0) rfl ?_ ?_ ?_ ono) ?_
     . exact(by simp only [F7])
     . exact(by assumption)
     . exact Xe (lbt rfl)
     clear S;rintro h ⟨S,M⟩;clear M;simp only [LC,ag,lay,Xc,Xd,Nat.reduceAdd]at S
     simp only [BS,LB,Nat.reduceLT,Nat.reduceEqDiff,Nat.reduceAdd,r4]
     refine⟨by simp only [bj,bA,aS,bK,aY,ne_eq,not_false_eq_true,bJ,cb,a9,aX,cu,cR,aO,Nat.reduceLT,Nat.reduceEqDiff,reduceIte,Xu,d,ab,au hl],?_⟩
     have w:aq .i64 ((i:Int)+1)=((i+1:Nat):Int):=by rw [wrap64]<;>omega
     simp only [w]
     exact T (i+1) _ _ (by omega) ⟨by omega,a2,ax,ay,_,_,by omega,by simp [lX],by simp [lY],
      fun x F=>(List.mem_append.1 F).elim (cX x) (fun h=>by simp at h;omega),fun x F=>(List.mem_append.1 F).elim (cY x) (fun h=>by simp at h;omega),S,by simp [aa,r,ab],by simp [aa,y,ab],by simp [aa,d,ab],by simp [aa]⟩
   . have bo : i=N:=by omega
     subst bo
     simp only [BS,LB,Nat.reduceLT,Nat.reduceEqDiff,F7,r,d,r4,aW,hlt,S.ld (b:=s) (o:=0) m0 rfl]
     refine step_ret (gH (n:=9) (a:=a) S.ok (S.row m2) (P.mo S.fr (by omega)) (by omega) (by omega)) ?_
     rintro v h ⟨f,H,a1,rfl,bl,bk,R⟩
     replace S:=S.call1 (i:=2) rfl f (o':=.row _ _) R
     simp only [LC]at S
     simp only [BS,LB,Nat.reduceLT,Nat.reduceEqDiff]
     refine AC (fun g h=> ∃(X Y:List Int),X.length=i/\Y.length=i/\(∀x∈X,-2147483648<=x/\x<=2147483647)/\(∀x∈Y,-2147483648<=x/\x<=2147483647)/\
      St (· =B) h0 h [(s,.row [.int .i64 i,D,G,.slice none 0 0] 1),(L,.row [.int .i64 0,.slice none 0 0,.slice none 0 0,.slice none 0 0] 1),(B,.row [V,.int .i64 a1] 1)] [(D,1,ints X),(G,1,ints Y),(.slice none 0 0,3,[])]/\
      g 0=ptrTo B/\g 2=ptrTo L/\g 3=ptrTo s) ?_ ?_ ?_
     . intro _
       obtain⟨bX,ix,aL⟩:=S.gset (E:=zM) (t:=2) (j:=0) (i:=0) (kd:=.i64) rfl (by rw [dr];omega) Tryz.t2.2.2.1
       have bp:idxS (some 1) D (.int .i64 0)=_:=ix
       simp only [BS,LB,Nat.reduceLT,Nat.reduceEqDiff,F7,d,bp,S.ld (b:=s) (o:=1) m0 rfl]
       refine aC (aL _ bM) ?_
       clear S aL;intro h S
       simp only [LC]at S
       obtain⟨bY,iy,ba⟩:=S.gset (E:=zM) (t:=2) (j:=1) (i:=i-1) (kd:=.i64) rfl (by rw [dr];omega) Tryz.t2.2.2.1
       have w1:aq .i64 ((i:Int)-1)=((i-1:Nat):Int):=by rw [wrap64]<;>omega
       simp only [BS,LB,Nat.reduceLT,Nat.reduceEqDiff,F7,d,w1,iy,S.ld (b:=s) (o:=0) m0 rfl,S.ld (b:=s) (o:=2) m0 rfl]
       refine aC (ba _ bM) ?_
       clear S ba;intro h S
       simp only [LC]at S
       simp only [BS]
       have af: ∀(l:List Int) (j:Nat) (z:Int),(ints l).set j (.int .i64 z)=ints (l.set j z):=by
        intro l
        induction l with
        |nil=>intro j z;rfl
        | cons x l T=>
          intro j z
          cases j with
          |zero=>rfl
          |succ j=>show _::_=_::_;exact congrArg _ (T j z)
       rw [af,af]at S
       refine kp ⟨_,_,by simp [lX],by simp [lY],fun x F=>?_,fun x F=>?_,S,by simp [aa,r,ab],by simp [aa,y,ab],by simp [aa,d,ab]⟩
       . rcases ki F with rfl|⟨j,_,F⟩
         . omega
         . exact cX x (Xr F)
       . rcases ki F with rfl|⟨j,_,F⟩
         . omega
         . exact cY x (Xr F)
     . intro _
       simp only [BS]
       exact kp ⟨X,Y,lX,lY,cX,cY,S,by simp [aa,r,ab],by simp [aa,y,ab],by simp [aa,d,ab]⟩
     . clear S r y d r4 lX lY cX cY X Y f R
       rintro g h ⟨X,Y,lX,lY,cX,cY,S,r,y,d⟩
       have w3:aq .i64 (3*(i:Int))=((3*i:Nat):Int):=by rw [wrap64]<;>omega
       have w4:aq .i64 (((3*i:Nat):Int)+1)=((3*i+1:Nat):Int):=by rw [wrap64]<;>omega
       simp only [BS,LB,Nat.reduceLT,Nat.reduceEqDiff,F7,r,d,w3,w4,S.ld (b:=s) (o:=0) m0 rfl]
       refine step_ret (gH (n:=3*i+1) (a:=a1) S.ok (S.row m2) (P.mo S.fr (by omega)) (by omega) (by omega)) ?_
       rintro v h ⟨f,C,a2,rfl,br,bm,R⟩
       replace S:=S.call1 (i:=2) rfl f (o':=.row _ _) R
       simp only [LC]at S
       simp only [BS,LB,Nat.reduceLT,Nat.reduceEqDiff,r]
       refine step_ret (gH (n:=3) (a:=a2) S.ok (S.row m2) (P.mo S.fr (by omega)) (by omega) (by omega)) ?_
       rintro v h ⟨f,rr,a3,rfl,ca,cc,R⟩
       replace S:=S.call1 (i:=2) rfl f (o':=.row _ _) R
       simp only [LC]at S
       simp only [BS,LB,Nat.reduceLT,Nat.reduceEqDiff]
       generalize decide ((0:Int)<(rr:Int))=ring
       refine sJ (fun g h=> ∃(a:Nat) (u:Value) (A:List Arc),a<=a3+2*i/\A.length<=i/\(∀x∈A,x.s<i/\x.t<i/\x.w<=2147483647)/\
        St (· =B) h0 h [(s,.row [.int .i64 i,D,G,u] 1),(L,.row [.int .i64 0,.slice none 0 0,.slice none 0 0,.slice none 0 0] 1),(B,.row [V,.int .i64 a] 1)] [(D,1,ints X),(G,1,ints Y),(u,3,A.flatMap cE)]/\
        g 0=ptrTo B/\g 2=ptrTo L/\g 3=ptrTo s/\g 5=.int .i64 C)
        (fun(j:Nat) g h=>j<=i/\ ∃(a:Nat) (u:Value) (A:List Arc),a<=a3+2*j/\A.length<=j/\(∀x∈A,x.s<i/\x.t<i/\x.w<=2147483647)/\
        St (· =B) h0 h [(s,.row [.int .i64 i,D,G,u] 1),(L,.row [.int .i64 0,.slice none 0 0,.slice none 0 0,.slice none 0 0] 1),(B,.row [V,.int .i64 a] 1)] [(D,1,ints X),(G,1,ints Y),(u,3,A.flatMap cE)]/\
        g 0=ptrTo B/\g 2=ptrTo L/\g 3=ptrTo s/\g 5=.int .i64 C/\g 6=.bool ring/\g 7=.int .i64 j) (fun j=>i-j) ?_ ?_ 0 ⟨by omega,a3,_,[],by omega,by simp,by simp,S,by simp [aa,r,ab],by simp [aa,y,ab],by simp [aa,d,ab],by simp [aa],by simp [aa],by simp [aa]⟩
       . clear S r y d f R T
         intro j T g h ⟨hj,a,u,A,ha,lA,O,S,r,y,d,H,r6,r7⟩
         have K:(A.flatMap cE).length=A.length*3:=bw g8 A
         by_cases hlt:j<i/\ring=true
         . obtain⟨hlt,I⟩:=hlt
           subst I
           have w1:aq .i64 ((j:Int)+1)=((j+1:Nat):Int):=by rw [wrap64]<;>omega
           have ci:(i:Int)≠0:=by omega
           have tm:((j+1:Nat):Int).tmod (i:Int)=(((j+1)%i:Nat):Int):=by rw [XB (by omega)];exact(Int.natCast_emod _ _).symm
           simp only [BS,LB,Nat.reduceLT,Nat.reduceEqDiff,F7,d,r6,r7,aW,hlt,S.ld (b:=s) (o:=0) m0 rfl]
           refine aE (aJ rfl) (q:=2048) (ps:=[(6,9),(1,9)]) (by kernel_rfl) ?_
           simp only [BS,LB,cls,Nat.reduceLT,Nat.reduceEqDiff,Nat.reduceAdd,Nat.reducePow,Nat.reduceDiv,Nat.reduceMod,Nat.reduceLeDiff,F7,r,d,r7,w1,mO ci,tm,S.ld (b:=s) (o:=0) m0 rfl,S.ld (b:=s) (o:=3) m0 rfl]
           refine cV (uS (a:=a) S.ok (S.row m2) (P.mo S.fr (by omega)) (by omega)) ?_
           rintro v h ⟨f,U,a4,rfl,Z,bt,R⟩
           have hl:=S.leaves (c:=s) m0 f (by omega)
           replace S:=S.call1 (i:=2) rfl f (o':=.row _ _) R
           simp only [LC]at S
           simp only [BS,LB,cls,Nat.reduceLT,Nat.reduceEqDiff,Nat.reduceAdd,Nat.reducePow,Nat.reduceDiv,Nat.reduceMod,Nat.reduceLeDiff,F7]
           refine df (cB (by exact Tryz.t29.1) (by exact Tryz.e99E) (by decide) (by rfl)) S ?_;clear S;intro h W S J ad;simp only [LC,bq,bV,ag,Nat.reduceMul,Nat.reduceAdd,Xi,Xf,Xg,Xm]at S
           simp only [BS,LB,cls,Nat.reduceLT,Nat.reduceEqDiff,Nat.reduceAdd,Nat.reducePow,Nat.reduceDiv,Nat.reduceMod,Nat.reduceLeDiff]
           refine jE (S.grow (j:=2) (m:=1) (new:=cE ⟨j,(j+1)%i,U⟩) rfl Tryz.t29.1 Tryz.e99E (by decide) Tryz.t29.2.2.2.2.2 (by simp only [aP];rw [S.lds (b:=W) (o:=0) (n:=1*3) m0 (lbt rfl)];rfl) rfl (by decide) rfl (by rw [K,g8];omega)) ?_
           clear S
           rintro h Q S
           simp only [LC]at S
           replace S:=S.drop1
           have fA:Fl Q:=(S.gown _ m2).1.fl
           simp only [BS,LB,cls,Nat.reduceLT,Nat.reduceEqDiff,Nat.reduceAdd,Nat.reducePow,Nat.reduceDiv,Nat.reduceMod,Nat.reduceLeDiff,F7,d]
           refine dP (aI S (i:=0) rfl ?_ ?_ ?_ ono) ?_
           . exact(by simp only [F7])
           . exact(by assumption)
           . exact Xe (lbt rfl)
           clear S;rintro h ⟨S,M⟩;clear M;simp only [LC,ag,lay,Xc,Xd,Nat.reduceAdd]at S
           simp only [BS,LB,Nat.reduceLT,Nat.reduceEqDiff,Nat.reduceAdd,r7]
           refine⟨by simp only [bj,bA,aS,bK,aY,ne_eq,not_false_eq_true,bJ,cb,a9,aX,cu,cR,aO,Nat.reduceLT,Nat.reduceEqDiff,reduceIte,Xu,d,ab,au hl],?_⟩
           simp only [w1]
           have bb:(j+1)%i<i:=Nat.mod_lt _ (by omega)
           exact T (j+1) _ _ (by omega) ⟨by omega,a4,Q,A++[⟨j,(j+1)%i,U⟩],by omega,by simp;omega,
            fun x F=>(List.mem_append.1 F).elim (O x) (fun h=>by simp at h;subst h;exact⟨hlt,bb,Z⟩),by rw [Xo];simpa using S,by simp [aa,r,ab],by simp [aa,y,ab],by simp [aa,d,ab],by simp [aa,H],by simp [aa,r6],by simp [aa]⟩
         . by_cases ai:j<i
           . have I:ring=false:=by cases ring with
              |false=>rfl
              |true=>exact absurd ⟨ai,rfl⟩ hlt
             subst I
             simp only [BS,LB,Nat.reduceLT,Nat.reduceEqDiff,F7,d,r6,r7,aW,ai,S.ld (b:=s) (o:=0) m0 rfl]
             exact kp ⟨a,u,A,by omega,by omega,O,S,by simp [aa,r,ab],by simp [aa,y,ab],by simp [aa,d,ab],by simp [aa,H]⟩
           . simp only [BS,LB,Nat.reduceLT,Nat.reduceEqDiff,F7,d,r7,aW,ai,S.ld (b:=s) (o:=0) m0 rfl]
             exact kp ⟨a,u,A,by omega,by omega,O,S,by simp [aa,r,ab],by simp [aa,y,ab],by simp [aa,d,ab],by simp [aa,H]⟩
       . clear S r y d f R T
         rintro g h ⟨a,u,A,ha,lA,O,S,r,y,d,H⟩
         simp only [BS]
         refine sJ (fun g h=> ∃(a:Nat) (u:Value) (A:List Arc),A.length<=100/\(∀x∈A,x.s<i/\x.t<i/\x.w<=2147483647)/\
          St (· =B) h0 h [(s,.row [.int .i64 i,D,G,u] 1),(L,.row [.int .i64 0,.slice none 0 0,.slice none 0 0,.slice none 0 0] 1),(B,.row [V,.int .i64 a] 1)] [(D,1,ints X),(G,1,ints Y),(u,3,A.flatMap cE)]/\
          g 0=ptrTo B/\g 2=ptrTo L/\g 3=ptrTo s)
          (fun(k:Nat) g h=>k<=C/\ ∃(a:Nat) (u:Value) (A:List Arc),a<=a3+2*i+6*k/\A.length<=i+2*k/\(∀x∈A,x.s<i/\x.t<i/\x.w<=2147483647)/\
          St (· =B) h0 h [(s,.row [.int .i64 i,D,G,u] 1),(L,.row [.int .i64 0,.slice none 0 0,.slice none 0 0,.slice none 0 0] 1),(B,.row [V,.int .i64 a] 1)] [(D,1,ints X),(G,1,ints Y),(u,3,A.flatMap cE)]/\
          g 0=ptrTo B/\g 2=ptrTo L/\g 3=ptrTo s/\g 5=.int .i64 C/\g 8=.int .i64 k) (fun k=>C-k) ?_ ?_ 0 ⟨by omega,a,u,A,by omega,by omega,O,S,by simp [aa,r,ab],by simp [aa,y,ab],by simp [aa,d,ab],by simp [aa,H],by simp [aa]⟩
         . clear S r y d H ha lA O a u A
           intro k T g h ⟨hk,a,u,A,ha,lA,O,S,r,y,d,H,r8⟩
           have K:(A.flatMap cE).length=A.length*3:=bw g8 A
           by_cases hlt:k<C
           . simp only [BS,LB,Nat.reduceLT,Nat.reduceEqDiff,H,r8,aW,hlt]
             refine aE (kh (ord:=[11,0,1,2,3,4,5,6,7,8,9,10,12]) rfl rfl (by simp only [dv,kX,dU,List.getElem?_cons_zero,List.getElem?_cons_succ,List.map_toArray,List.map_cons,List.map_nil,Nat.reduceBEq,cond_true,cond_false];exact rfl)) (q:=1) (ps:=[(0,10),(0,8),(4,7),(0,4)]) (by kernel_rfl) ?_
             simp only [BS,LB,cls,Nat.reducePow,Nat.reduceDiv,Nat.reduceMod,Nat.reduceLeDiff,F7]
             refine df aA S ?_;clear S;intro h b9 S b1 bc
             simp only [BS,LB,cls,Nat.reduceLT,Nat.reduceEqDiff,Nat.reduceAdd,Nat.reducePow,Nat.reduceDiv,Nat.reduceMod,Nat.reduceLeDiff,F7,r,d,S.ld (b:=s) (o:=0) m1 rfl]
             refine cV (gH (n:=i) (a:=a) S.ok (S.row m3) (P.mo S.fr (by omega)) (by omega) (by omega)) ?_
             rintro v h ⟨f,s1,a4,rfl,be,bt,R⟩
             have bu:=S.leaves (c:=b9) m0 f (by omega)
             have bv:=S.leaves (c:=s) m1 f (by omega)
             replace S:=S.call1 (i:=3) rfl f (o':=.row _ _) R
             simp only [LC]at S
             simp only [BS,LB,cls,Nat.reduceLT,Nat.reduceEqDiff,Nat.reduceAdd,Nat.reducePow,Nat.reduceDiv,Nat.reduceMod,Nat.reduceLeDiff,F7,r,d,S.ld (b:=s) (o:=0) m1 rfl]
             refine cV (gH (n:=i) (a:=a4) S.ok (S.row m3) (P.mo S.fr (by omega)) (by omega) (by omega)) ?_
             rintro v h ⟨f,s2,a5,rfl,bf,cf,R⟩
             have bx:=S.leaves (c:=b9) m0 f (by omega)
             have bB:=S.leaves (c:=s) m1 f (by omega)
             replace S:=S.call1 (i:=3) rfl f (o':=.row _ _) R
             simp only [LC]at S
             simp only [BS,LB,cls,Nat.reduceLT,Nat.reduceEqDiff,Nat.reduceAdd,Nat.reducePow,Nat.reduceDiv,Nat.reduceMod,Nat.reduceLeDiff,r]
             refine cV (uS (a:=a5) S.ok (S.row m3) (P.mo S.fr (by omega)) (by omega)) ?_
             rintro v h ⟨f,U,a6,rfl,Z,ch,R⟩
             have bH:=S.leaves (c:=b9) m0 f (by omega)
             replace S:=S.call1 (i:=3) rfl f (o':=.row _ _) R
             simp only [LC]at S
             simp only [BS,LB,cls,Nat.reduceLT,Nat.reduceEqDiff,Nat.reduceAdd,Nat.reducePow,Nat.reduceDiv,Nat.reduceMod,Nat.reduceLeDiff,F7]
             refine dP (S.store (i:=0) rfl ?_ ?_ rfl rfl ?_ ono) ?_
             . exact(by exact Tryz.t99.2.1)
             . exact(by intro x e;cases e)
             . exact lbt rfl
             clear S;rintro h ⟨S,M⟩;clear M;simp only [LC,ag,lay,Xc,Xd,Nat.reduceAdd]at S
             simp only [BS,LB,Nat.reduceLT,Nat.reduceEqDiff,Nat.reduceAdd,F7,d]
             refine⟨by simp only [bj,bA,aS,bK,aY,ne_eq,not_false_eq_true,bJ,cb,a9,aX,cu,cR,aO,Nat.reduceLT,Nat.reduceEqDiff,reduceIte,Xu,d,ab,<-bc,au bu,au bx,au bB,au bH,av bv],?_⟩
             simp only [BS,LB,Nat.reduceLT,Nat.reduceEqDiff,F7,S.ld (b:=s) (o:=3) m1 rfl,S.lds (b:=b9) (o:=0) (n:=3) m0 (lbt rfl)]
             refine ah (cB (by exact Tryz.t29.1) (by exact Tryz.e99E) (by decide) (by rfl)) S ?_;clear S;intro h W S J;simp only [LC,bq,bV,ag,Nat.reduceMul,Nat.reduceAdd,Xi,Xf,Xg,Xm]at S
             simp only [BS,LB,Nat.reduceLT,Nat.reduceEqDiff]
             refine gf (S.grow (j:=2) (m:=1) (new:=cE ⟨s1,s2,U⟩) rfl Tryz.t29.1 Tryz.e99E (by decide) Tryz.t29.2.2.2.2.2 (by simp only [aP];rw [S.lds (b:=W) (o:=0) (n:=1*3) m0 (lbt rfl)];rfl) rfl (by decide) rfl (by rw [K,g8];omega)) ?_
             clear S
             rintro h Q S
             simp only [LC]at S
             replace S:=S.drop1
             have fA:Fl Q:=(S.gown _ m2).1.fl
             simp only [BS,LB,Nat.reduceLT,Nat.reduceEqDiff,F7,d]
             refine aC (aI S (i:=1) rfl ?_ ?_ ?_ ono) ?_
             . exact(by simp only [F7])
             . exact(by assumption)
             . exact Xe (lbt rfl)
             clear S;rintro h ⟨S,M⟩;clear M;simp only [LC,ag,lay,Xc,Xd,Nat.reduceAdd]at S
             simp only [BS,LB,Nat.reduceLT,Nat.reduceEqDiff,r]
             refine step_ret (gH (n:=4) (a:=a6) S.ok (S.row m3) (P.mo S.fr (by omega)) (by omega) (by omega)) ?_
             rintro v h ⟨f,r9,a7,rfl,cj,ck,R⟩
             replace S:=S.call1 (i:=3) rfl f (o':=.row _ _) R
             simp only [LC]at S
             have w8:aq .i64 ((k:Int)+1)=((k+1:Nat):Int):=by rw [wrap64]<;>omega
             have ak:(A.flatMap cE++cE ⟨s1,s2,U⟩).length=A.length*3+3:=by rw [Xp,K,g8]
             have bh: ∀x∈A++[(⟨s1,s2,U⟩:Arc)],x.s<i/\x.t<i/\x.w<=2147483647:=fun x F=>(List.mem_append.1 F).elim (O x) (fun h=>by simp at h;subst h;exact⟨be,bf,Z⟩)
             by_cases hz:(r9:Int)=0
             . simp only [BS,LB,Nat.reduceLT,Nat.reduceEqDiff,Nat.reduceAdd,F7,d,hz,S.ld (b:=s) (o:=3) m1 rfl,S.ld (b:=b9) (o:=0) m0 rfl,S.ld (b:=b9) (o:=1) m0 rfl,S.ld (b:=b9) (o:=2) m0 rfl]
               refine ah (cB (by exact Tryz.t29.1) (by exact Tryz.e99E) (by decide) (by rfl)) S ?_;clear S;intro h W S J;simp only [LC,bq,bV,ag,Nat.reduceMul,Nat.reduceAdd,Xi,Xf,Xg,Xm]at S
               simp only [BS,LB,Nat.reduceLT,Nat.reduceEqDiff]
               refine gf (S.grow (j:=2) (m:=1) (new:=cE ⟨s2,s1,U⟩) rfl Tryz.t29.1 Tryz.e99E (by decide) Tryz.t29.2.2.2.2.2 (by simp only [aP];rw [S.lds (b:=W) (o:=0) (n:=1*3) m0 (lbt rfl)];rfl) rfl (by decide) rfl (by rw [ak,g8];omega)) ?_
               clear S
               rintro h bi S
               simp only [LC]at S
               replace S:=S.drop1
               have fA:Fl bi:=(S.gown _ m2).1.fl
               simp only [BS,LB,Nat.reduceLT,Nat.reduceEqDiff,F7,d]
               refine aC (aI S (i:=1) rfl ?_ ?_ ?_ ono) ?_
               . exact(by simp only [F7])
               . exact(by assumption)
               . exact Xe (lbt rfl)
               clear S;rintro h ⟨S,M⟩;clear M;simp only [LC,ag,lay,Xc,Xd,Nat.reduceAdd]at S
               simp only [BS,LB,Nat.reduceLT,Nat.reduceEqDiff,r8,w8]
               replace S:=S.drop1
               exact T (k+1) _ _ (by omega) ⟨by omega,a7,bi,A++[⟨s1,s2,U⟩]++[⟨s2,s1,U⟩],by omega,by simp;omega,
                fun x F=>(List.mem_append.1 F).elim (bh x) (fun h=>by simp at h;subst h;exact⟨bf,be,Z⟩),by rw [Xo,Xo];simpa using S,by simp [aa,r,ab],by simp [aa,y,ab],by simp [aa,d,ab],by simp [aa,H],by simp [aa]⟩
             . simp only [BS,LB,Nat.reduceLT,Nat.reduceEqDiff,r8,hz,w8]
               replace S:=S.drop1
               exact T (k+1) _ _ (by omega) ⟨by omega,a7,Q,A++[⟨s1,s2,U⟩],by omega,by simp;omega,
                bh,by rw [Xo];simpa using S,by simp [aa,r,ab],by simp [aa,y,ab],by simp [aa,d,ab],by simp [aa,H],by simp [aa]⟩
           . simp only [BS,LB,Nat.reduceLT,Nat.reduceEqDiff,H,r8,aW,hlt]
             exact kp ⟨a,u,A,by omega,O,S,by simp [aa,r,ab],by simp [aa,y,ab],by simp [aa,d,ab]⟩
         . clear S r y d H ha lA O a u A
           rintro g h ⟨a,u,A,lA,O,S,r,y,d⟩
           simp only [BS,LB,Nat.reduceLT,Nat.reduceEqDiff,F7,y,d,S.lds (b:=s) (o:=0) (n:=4) m0 (lbt rfl)]
           have fX:Fl D:=(S.gown _ m0).1.fl
           have fY:Fl G:=(S.gown _ m1).1.fl
           have fA:Fl u:=(S.gown _ m2).1.fl
           refine aC (S.store (i:=1) rfl Tryz.t31.2.1 (by intro x e;cases e) rfl (by simp only [ag,Xc,Xd,List.all_cons,List.all_nil,fX.2.1,fY.2.1,fA.2.1,Xu];rfl) (lbt rfl) ono) ?_
           clear S;rintro h ⟨S,_⟩
           simp only [LC,ag,lay,Xc,Xd,Nat.reduceAdd]at S
           simp only [BS,ac]
           refine⟨_,rF (by decide) (by simp only [aO,y,ab,Nat.reduceEqDiff,reduceIte];exact cF Tryz.t31.1 Tryz.t31.2.1 (S.lds (b:=L) (o:=0) (n:=4) m1 (lbt rfl))),?_⟩
           have al: ∀p∈[(D,1,ints X),(G,1,ints Y),(u,3,A.flatMap cE)],∀c,ar p.1 c->h0.n<=c:=by
            intro p hp c hc
            obtain⟨h1,h2⟩:=S.gblk hp hc
            rcases h1 with h1|h1
            . exact h1
            . exact absurd (by simp [h1]) h2
           refine⟨S.fr,⟨i,X,Y,A⟩,D,G,u,rfl,⟨show 1<=i by omega,show i<=12 by omega,lX,lY,cX,cY,lA,O⟩,show i=_ by omega,⟨(S.gown _ m0).1.sl rfl (fun _=>rfl) (by decide),(S.gown _ m1).1.sl rfl (fun _=>rfl) (by decide),(S.gown _ m2).1.sl rfl (fun _=>rfl) (by decide)⟩,?_⟩
           rintro c (hc|hc|hc)
           . exact al _ m0 c hc
           . exact al _ m1 c hc
           . exact al _ m2 c hc
 . exact⟨by omega,a0,_,_,[],[],by omega,rfl,rfl,by simp,by simp,S,by simp [aa,cL,ab],by simp [aa,ab],by simp [aa,ab],by simp [aa]⟩
theorem raw_ok{h0:Hp}(l:h0.t.Sized h0.n){j:Nat}{k:Value}{xs:List Int}(m:Row h0 j [k,.int .i64 ((0:Nat):Int)] 1)(n:mH h0 j k xs 0):
 Ret zM 9 [ptrTo j] h0 fun v h'=>Mo (· =j) h0 h'/\ ∃e g h i,v=iO e g h i/\Good e/\c8 h' g h i e/\ ∀c,(ar g c\/ar h c\/ar i c)->h0.n<=c:=
 (raw0_ok l m n).mono fun v h' ⟨f,e,g,h,i,a,b,_,c,d⟩=>⟨f,e,g,h,i,a,b,c,d⟩
def Tryz.Fj:=aj t1<|aj t2<|aj t3<|aj t24<|aj t29<|aj Z0<|Z2
theorem ao{h h':Hp}{b:Nat}(g:Gr h h')(a:b<h.n):leaves h h' b=true:=rW (g.get b a)
theorem own_ok{h0:Hp}(Q:h0.t.Sized h0.n){u:Gra}(k:Good u){p r l:Value}(F:c8 h0 p r l u):
 Ret zM 46 [iO u p r l] h0 fun v h'=>Gr h0 h'/\ ∃p r l,v=iO u p r l/\c8 h' p r l u/\(∀c,ar p c\/ar r c\/ar l c->h0.n<=c)/\WrK h' 3 cE l u.arcs/\ ∀c,ar l c-> ¬ar p c/\ ¬ar r c:=by
 have S:=Si Q
 have lX:=k.lX
 have lY:=k.lY
 have n2:=k.n2
 have M:=k.many
 refine ae (n:=16) (rs:=[.cell 2 31]) rfl Tryz.e46 rfl rfl rfl (lbt rfl) ?_
 simp only [BS,Nat.reduceLT,iO]
 refine ah (a8 (by intro x e;cases e)) S ?_;clear S;intro h b S R;simp only [ag]at S
 simp only [BS,Fj]
 refine ah aA S ?_;clear S;intro h s S N
 simp only [BS]
 refine aE (aJ rfl) (q:=0) (ps:=[(5,7),(2,7),(2,4)]) (by kernel_rfl) ?_
 simp only [BS,LB,cls,Nat.reduceLT,Nat.reduceEqDiff,Nat.reduceAdd,Nat.reducePow,Nat.reduceDiv,Nat.reduceMod,Nat.reduceLeDiff,Fj,S.ld (b:=b) (o:=1) m1 rfl]
 refine cV (tQ S.ok (F.X.gr S.gr) (by omega)) ?_
 have T:=S.fr.n
 rintro y h ⟨g,f,G⟩
 have O:=ao g ((S.row (b:=b) m1).lt S.ok)
 have H: ∀c,ar y c-> ¬c=b:=fun c d e=>by have:=G c d;have:=(S.row (b:=b) m1).lt S.ok;omega
 have I: ∀c,ar y c-> ¬c=s:=fun c d e=>by have:=G c d;have:=(S.row (b:=s) m0).lt S.ok;omega
 replace S:=S.call g
 simp only [BS,LB,cls,Nat.reduceLT,Nat.reduceEqDiff,Nat.reduceAdd,Nat.reducePow,Nat.reduceDiv,Nat.reduceMod,Nat.reduceLeDiff,Fj,S.ld (b:=b) (o:=2) m1 rfl]
 refine cV (tQ S.ok (F.Y.gr S.gr) (by omega)) ?_
 have U:=S.fr.n
 rintro A h ⟨g,j,J⟩
 have P:=ao g ((S.row (b:=b) m1).lt S.ok)
 have K: ∀c,ar A c-> ¬c=b:=fun c d e=>by have:=J c d;have:=(S.row (b:=b) m1).lt S.ok;omega
 have L: ∀c,ar A c-> ¬c=s:=fun c d e=>by have:=J c d;have:=(S.row (b:=s) m0).lt S.ok;omega
 replace S:=S.call g
 replace f:=f.gr g
 simp only [BS,LB,cls,Nat.reduceLT,Nat.reduceEqDiff,Nat.reduceAdd,Nat.reducePow,Nat.reduceDiv,Nat.reduceMod,Nat.reduceLeDiff,Fj,S.ld (b:=b) (o:=3) m1 rfl]
 refine cV (zf S.ok (F.A.gr S.gr) (by omega)) ?_
 have V:=S.fr.n
 rintro B h ⟨g,m,C,t⟩
 have W: ∀c,ar B c-> ¬ar y c/\ ¬ar A c:=fun c d=>⟨fun h=>by have:=C c d;have:=f.lt S.ok h;omega,fun h=>by have:=C c d;have:=j.lt S.ok h;omega⟩
 have e3:=ao g ((S.row (b:=b) m1).lt S.ok)
 have w: ∀c,ar B c-> ¬c=b:=fun c d e=>by have:=C c d;have:=(S.row (b:=b) m1).lt S.ok;omega
 have D: ∀c,ar B c-> ¬c=s:=fun c d e=>by have:=C c d;have:=(S.row (b:=s) m0).lt S.ok;omega
 replace S:=S.call g
 replace f:=f.gr g
 replace j:=j.gr g
 have z: ∀c,ar y c\/ar A c\/ar B c->h0.n<=c:=fun c d=>by
  rcases d with h|h|h
  . exact Xl T (G c h)
  . exact Xl U (J c h)
  . exact Xl V (C c h)
 have X:=f.fl
 have Y:=j.fl
 have Z:=m.fl
 simp only [BS,LB,cls,Nat.reduceLT,Nat.reduceEqDiff,Nat.reduceAdd,Nat.reducePow,Nat.reduceDiv,Nat.reduceMod,Nat.reduceLeDiff,Fj]
 refine dP (aI S (i:=1) rfl ?_ ?_ ?_ ono) ?_
 . exact(by simp only [Fj])
 . exact(by assumption)
 . exact Xe (lbt rfl)
 clear S;rintro h ⟨S,a⟩;replace f:=f.mo a H;replace j:=j.mo a K;replace m:=m.mo a w;replace t:=t.mo a w;clear a;simp only [LC,ag,lay,Xc,Xd,Nat.reduceAdd]at S
 simp only [BS,LB,cls,Nat.reduceLT,Nat.reduceEqDiff,Nat.reduceAdd,Nat.reducePow,Nat.reduceDiv,Nat.reduceMod,Nat.reduceLeDiff,Fj]
 refine dP (aI S (i:=1) rfl ?_ ?_ ?_ ono) ?_
 . exact(by simp only [Fj])
 . exact(by assumption)
 . exact Xe (lbt rfl)
 clear S;rintro h ⟨S,a⟩;replace f:=f.mo a H;replace j:=j.mo a K;replace m:=m.mo a w;replace t:=t.mo a w;clear a;simp only [LC,ag,lay,Xc,Xd,Nat.reduceAdd]at S
 simp only [BS,LB,cls,Nat.reduceLT,Nat.reduceEqDiff,Nat.reduceAdd,Nat.reducePow,Nat.reduceDiv,Nat.reduceMod,Nat.reduceLeDiff,Fj]
 refine dP (aI S (i:=1) rfl ?_ ?_ ?_ ono) ?_
 . exact(by simp only [Fj])
 . exact(by assumption)
 . exact Xe (lbt rfl)
 clear S;rintro h ⟨S,a⟩;replace f:=f.mo a H;replace j:=j.mo a K;replace m:=m.mo a w;replace t:=t.mo a w;clear a;simp only [LC,ag,lay,Xc,Xd,Nat.reduceAdd]at S
 simp only [BS,LB,Nat.reduceLT,Nat.reduceEqDiff,Nat.reduceAdd,Fj]
 refine⟨by simp only [bj,bA,aS,bK,aY,ne_eq,not_false_eq_true,bJ,cb,a9,aX,cu,cR,aO,Nat.reduceLT,Nat.reduceEqDiff,reduceIte,Xu,bR,ab,au O,au P,au e3,av O,av P,av e3],?_⟩
 simp only [BS,LB,Nat.reduceLT,Nat.reduceEqDiff,S.lds (b:=b) (o:=0) (n:=4) m1 (lbt rfl)]
 refine aC (S.store (i:=0) rfl Tryz.t31.2.1 (by intro x e;cases e) rfl (by simp only [ag,Xc,Xd,List.all_cons,List.all_nil,X.2.1,Y.2.1,Z.2.1,Xu];rfl) (lbt rfl) ono) ?_
 clear S
 rintro h' ⟨S,E⟩
 simp only [LC,ag,lay,Xc,Xd,Nat.reduceAdd]at S
 simp only [BS,ac]
 refine⟨_,rF (by decide) (by simp only [aO,ab,Nat.reduceEqDiff,reduceIte];exact cF Tryz.t31.1 Tryz.t31.2.1 (S.lds (b:=s) (o:=0) (n:=4) m0 (lbt rfl))),?_⟩
 exact⟨S.gr,y,A,B,rfl,⟨f.mo E I,j.mo E L,m.mo E D⟩,z,t.mo E D,W⟩
end Go.Ab
end
section
namespace Go.Ab
section
variable(A:List Arc)(f:Arc->Nat)
def outs(j v:Nat):List Nat:=(Xa j).filter fun i=>decide (f (A.getD i default)=v)
def start:Nat->Nat
 |0=>0
 |v+1=>start v+(outs A f A.length v).length
theorem gP(j v:Nat):outs A f (j+1) v=outs A f j v++(if f (A.getD j default)=v then [j]else []):=by
 unfold outs
 rw [XN,List.filter_append]
 congr 1
 by_cases h:f (A.getD j default)=v
 . simp only [XL,List.filter_nil,h,decide_true,if_true]
 . simp only [XL,List.filter_nil,h,decide_false,if_false,Bool.false_eq_true]
theorem outs_pre{j k:Nat}(h:j<=k)(v:Nat): ∃l,outs A f k v=outs A f j v++l:=by
 induction k with
 | zero => have:j=0:=by omega
           subst this;exact⟨[],by simp⟩
 | succ k a=>
   by_cases b:j=k+1
   . subst b;exact⟨[],by simp⟩
   . obtain⟨l,c⟩:=a (by omega)
     exact⟨l++_,by rw [gP,c,List.append_assoc]⟩
theorem uE{j k:Nat}(h:j<=k)(v:Nat):(outs A f j v).length<=(outs A f k v).length:=by
 obtain⟨l,a⟩:=outs_pre A f h v
 rw [a,Xp];omega
theorem start_eq (v:Nat):start A f v=((Xa A.length).filter fun i=>decide (f (A.getD i default)<v)).length:=by
 have e: ∀(l:List Nat) (v:Nat),(l.filter fun i=>decide (f (A.getD i default)<v+1)).length=(l.filter fun i=>decide (f (A.getD i default)<v)).length+(l.filter fun i=>decide (f (A.getD i default)=v)).length:=by
  intro l v
  induction l with
  |nil=>rfl
  | cons x l b=>
    simp only [XL]
    by_cases g:f (A.getD x default)<v
    . have c:f (A.getD x default)<v+1:=by omega
      have d: ¬f (A.getD x default)=v:=by omega
      rw [if_pos (decide_eq_true c),if_pos (decide_eq_true g),if_neg (by rw [decide_eq_true_eq];exact d),XA,XA,b];omega
    . by_cases d:f (A.getD x default)=v
      . have c:f (A.getD x default)<v+1:=by omega
        rw [if_pos (decide_eq_true c),if_neg (by rw [decide_eq_true_eq];exact g),if_pos (decide_eq_true d),XA,XA,b];omega
      . have c: ¬f (A.getD x default)<v+1:=by omega
        rw [if_neg (by rw [decide_eq_true_eq];exact c),if_neg (by rw [decide_eq_true_eq];exact g),if_neg (by rw [decide_eq_true_eq];exact d),b]
 induction v with
 |zero=>rw [start];symm;rw [List.length_eq_zero_iff,List.filter_eq_nil_iff];intro a _;simp only [Nat.not_lt_zero,decide_false,Bool.false_eq_true,not_false_eq_true]
 |succ v b=>rw [start,b,e];rfl
theorem oI(v:Nat):start A f v+(outs A f A.length v).length<=A.length:=by
 have:=start_eq A f (v+1)
 rw [start]at this
 rw [this]
 exact Xl (XQ _ _) (by simp)
theorem uj{u v:Nat}(h:u<v):start A f u+(outs A f A.length u).length<=start A f v:=by
 induction v with
 |zero=>omega
 | succ v a=>
   rw [start]
   by_cases b:u=v
   . subst b;exact XC _
   . have:=a (by omega);omega
theorem zn{u v r s:Nat}(b:r<(outs A f A.length u).length)(c:s<(outs A f A.length v).length)(h:start A f u+r=start A f v+s):u=v/\r=s:=by
 rcases Nat.lt_trichotomy u v with a|a|a
 . have:=uj A f a;omega
 . subst a;exact⟨rfl,by omega⟩
 . have:=uj A f a;omega
end
def cI(x:Nat):List Value:=[.int .i64 x]
theorem hI(x:Nat):(cI x).length=1:=rfl
def fj(h:Hp)(m:Nat)(v:Value)(N:Nat)(R:Nat->List Nat):Prop:=
 ∃a b,v=.slice (some ⟨a,0,none⟩) N N/\m<=a/\Row h a b 1/\b.length=N/\ ∀i,i<N-> ∃w,b[i]? =some w/\az h 1 cI w (R i)/\ ∀c,ar w c->m<=c
theorem fj.mo{M:Nat->Prop}{h h':Hp}{v:Value}{m N:Nat}{R:Nat->List Nat}(r:fj h m v N R)(g:Mo M h h')(e: ∀b,M b->b<m):fj h' m v N R:=by
 obtain⟨j,f,k,t,l,n,p⟩:=r
 refine⟨j,f,k,by omega,g.has (o:=.row f 1) l (fun h=>by have:=e _ h;omega),n,fun i q=>?_⟩
 obtain⟨w,a,b,c⟩:=p i q
 exact⟨w,a,b.mo g fun x d s=>by have:=e _ s;have:=c x d;omega,fun x d=>by have:=c x d;omega⟩
theorem fj.gr{h h':Hp}{v:Value}{m N:Nat}{R:Nat->List Nat}(g:Gr h h')(r:fj h m v N R):fj h' m v N R:=
 r.mo (M:=NoM) g.fr (fun _ h=>h.elim)
theorem fj.low{h:Hp}{v:Value}{m d N:Nat}{R:Nat->List Nat}(r:fj h m v N R)(p:d<=m):fj h d v N R:=by
 obtain⟨e,f,g,q,j,k,l⟩:=r
 exact⟨e,f,g,by omega,j,k,fun i n=>by
  obtain⟨w,a,b,c⟩:=l i n
  exact⟨w,a,b,fun x o=>by have:=c x o;omega⟩⟩
structure bL(h:Hp)(m:Nat)(p:Value)(γ:Gra):Prop where
 ex: ∃b vx vy va vo vi,p=ptrTo b/\Row h b [.int .i64 γ.nodes,vx,vy,va,vo,vi] 1/\c8 h vx vy va γ/\fj h m vo γ.nodes (outs γ.arcs Arc.s γ.arcs.length)/\fj h m vi γ.nodes (outs γ.arcs Arc.t γ.arcs.length)/\m<=b/\ ∀c,ar vx c\/ar vy c\/ar va c->m<=c
theorem c8.mo{M:Nat->Prop}{h h':Hp}{b d e:Value}{i:Gra}(a:c8 h b d e i)(g:Mo M h h')(f: ∀c,ar b c\/ar d c\/ar e c-> ¬M c):c8 h' b d e i:=
 ⟨a.X.mo g fun c h=>f c (.inl h),a.Y.mo g fun c h=>f c (.inr (.inl h)),a.A.mo g fun c h=>f c (.inr (.inr h))⟩
theorem bL.mo{M:Nat->Prop}{h h':Hp}{m:Nat}{p:Value}{d:Gra}(n:bL h m p d)(g:Mo M h h')(a: ∀b,M b->b<m):bL h' m p d:=by
 obtain⟨b,f,i,j,k,l,q,r,s,t,u,v,e⟩:=n.ex
 exact⟨b,f,i,j,k,l,q,g.has (o:=.row _ 1) r (fun h=>by have:=a _ h;omega),s.mo g (fun c w x=>by have:=a _ x;have:=e c w;omega),t.mo g a,u.mo g a,v,e⟩
theorem bL.gr{h h':Hp}{m:Nat}{p:Value}{a:Gra}(n:bL h m p a)(g:Gr h h'):bL h' m p a:=n.mo (M:=NoM) g.fr (fun _ h=>h.elim)
theorem kZ{α:Type}{N k:Nat}{F F':Nat->α}(b: ∀i,i<N->i≠k->F' i=F i):((Xa N).map F).set k (F' k)=(Xa N).map F':=by
 refine Xv fun i=>?_
 rw [Xn]
 by_cases a:i<N
 . by_cases e:k=i
   . subst e;simp [a]
   . rw [if_neg e];simp [a,b i a (Ne.symm e)]
 . by_cases e:k=i
   . subst e;simp [a]
   . rw [if_neg e];simp [a]
theorem kc{α:Type}{N k:Nat}{F:Nat->α}(a:k<N):((Xa N).map F)[k]? =some (F k):=by simp [a]
end Go.Ab

end
section
namespace Go.Ab
open Go.Proofs
set_option maxRecDepth 10000
def Tryz.F0M:=aj t1<|aj t2<|aj t3<|Z2
def Tryz.F0N:=aj t1<|aj t2<|aj t3<|Z2
def Tryz.Fc:=aj t1<|aj t2<|aj t3<|aj t4<|aj t5<|aj t6<|aj Z3<|aj Z5<|aj t9<|aj t10<|aj t11<|aj t12<|aj Z15<|aj Z18<|aj t15<|aj t16<|aj t17<|aj Z21<|aj Z20<|aj t20<|aj t24<|aj t29<|aj Z0<|aj t33<|aj Z2<|aj t181<|aj t189<|aj t192<|aj t271<|aj t358<|aj Z19<|aj t372<|aj t374<|aj t376<|aj t377<|aj t378<|aj t379<|Z14
theorem slice_at{E:Env}{t e:TypeId}{b k len cap l m:Nat}{a c d:IntKind}(i:E.und t=some (.slice e))(j:E.sz e=some k)(f:l<=m)(o:m<=cap):
 dS E t (.slice (some ⟨b,0,none⟩) len cap) (some (.int a (l:Int))) (some (.int c (l:Int))) (some (.int d (m:Int)))=some (.slice (some ⟨b,if m=l then 0 else l*k,none⟩) 0 (m-l)):=by
 have g: ∀n:Nat,fG (n:Int)=some n:=fun n=>rfl
 simp only [dS,i,dZ,d6,g,Xy o,Xy f,Xy (XC l),cond_true,j,Nat.sub_self,Option.map]
 by_cases h:m=l
 . subst h;rw [Nat.beq_refl];simp
 . have:Nat.beq m l=false:=by
    cases p:Nat.beq m l with
    |false=>rfl
    |true=>exact absurd (Nat.eq_of_beq_eq_true p) h
   rw [this,if_neg h];simp [dH]
theorem St.fill{M:Nat->Prop}{h0 h:Hp}{L:List (Nat×Ob)}{G:List GL}(S:St M h0 h L G){E:Env}{t k e:TypeId}{d i b off len cap md:Nat}{q l:List Value}{s:Option Nat}{x v:Value}(m:L[i]? =some (b,.row l md))(r:E.und t=some (.slice e))(u:er E e d 1 q)
 (w:dw E k=some false) (a:aP h 1 x=some (1,[v])) (z:Fl v) (F:len<cap) (A:off+len<l.length) (f:md≠0) {ts:List TypeId}:
 ∃h',cM E h (t::k::ts) (.slice (some ⟨b,off,s⟩) len cap) x=some (h',.slice (some ⟨b,off,s⟩) (len+1) cap)/\St M h0 h' (L.set i (b,.row (l.set (off+len) v) md)) G/\Mo (· =b) h h':=by
 obtain⟨⟨H,g,rfl,c⟩,I,B⟩:=u
 have C:=S.row (Xr m)
 obtain⟨y,D,n⟩:=C.store S.ok f (o:=off+len) (vs:=[v]) (by simp;omega) (by simp [z.2.1])
 have e:lay l (off+len) [v]=l.set (off+len) v:=by
  refine Xv fun j=>?_
  rw [iZ (by simp;omega),Xn]
  simp only [XA,List.length_nil]
  by_cases p:off+len=j
  . subst p;rw [if_pos ⟨XC _,by omega⟩,if_pos rfl,if_pos A];simp
  . rw [if_neg (by omega),if_neg p]
 rw [e]at n
 refine⟨h.put b y,?_,S.put m n,(Mo.refl (M:=(· =b)) S.ok).put (.inr rfl) y⟩
 simp only [cM,w,iY,r,g,c,a]
 unfold eB
 rw [Xy (by omega:len+1<=cap)]
 simp only [cond_true,c,Xg,D]
theorem note_runq{ρ:Operand->Value}{f:Operand}{xs:Array Operand}{ts:Array TypeId}{h h':Hp}:bU ρ true (.call ⟨.value f,xs,ts⟩) h h'=none:=rfl
theorem vw{i:Nat}:cg i []=none:=rfl
theorem pair_n{x:Option Tch}:iW none x=true:=rfl
def KeyF(E:Env)(g:FuncId)(f:Arc->Nat):Prop:= ∀(h:Hp) (a:Arc),h.t.Sized h.n->bI E g [.agg ⟨cE a⟩] h (.int .i64 (f a))
theorem of2_key:KeyF zM 103 Arc.s:=by
 intro f a c
 have S:=Si c
 refine ae (n:=5) (rs:=[.tmp 2]) rfl Tryz.e103 rfl rfl rfl (lbt rfl) ?_
 simp only [BS,Nat.reduceLT,cE]
 refine ah (a8 (by intro x e;cases e)) S ?_;clear S;intro h b S d;simp only [ag]at S
 simp only [BS,LB,ac,Nat.reduceLT,Nat.reduceEqDiff,F0M,S.ld (b:=b) (o:=0) m0 rfl]
 exact S.gr
theorem of3_key:KeyF zM 104 Arc.t:=by
 intro f a c
 have S:=Si c
 refine ae (n:=5) (rs:=[.tmp 2]) rfl Tryz.e104 rfl rfl rfl (lbt rfl) ?_
 simp only [BS,Nat.reduceLT,cE]
 refine ah (a8 (by intro x e;cases e)) S ?_;clear S;intro h b S d;simp only [ag]at S
 simp only [BS,LB,ac,Nat.reduceLT,Nat.reduceEqDiff,F0N,S.ld (b:=b) (o:=1) m0 rfl]
 exact S.gr
theorem lh(A:List Arc)(f:Arc->Nat)(j v:Nat):(outs A f j v).length<=j:=by
 unfold outs
 exact Xl (XQ _ _) (by simp)
theorem uC(z:Value)(N:Nat):bq [z] ((N:Int)).toNat=(Xa N).map fun _=>z:=by
 rw [XF]
 have: ∀n,bq [z] n=List.replicate n z:=by
  intro n
  induction n with
  |zero=>rfl
  |succ n a=>simp [bq,a,List.replicate_succ]
 rw [this,XE,List.length_range]
def lI(A:List Arc)(f:Arc->Nat)(i v:Nat):Value:=.int .i64 ((outs A f i v).length:Nat)
def fV(A:List Arc)(f:Arc->Nat)(b v n:Nat):Value:=.slice (some ⟨b,if(outs A f A.length v).length=0 then 0 else start A f v,none⟩) n (outs A f A.length v).length
theorem cnt_set{A:List Arc}{f:Arc->Nat}{N i:Nat}(c:i<A.length):((Xa N).map (lI A f i)).set (f A[i]) (.int .i64 (((outs A f i (f A[i])).length+1:Nat):Int))=(Xa N).map (lI A f (i+1)):=by
 have b:A.getD i default=A[i]:=by simp [zN,c]
 have e:(.int .i64 (((outs A f i (f A[i])).length+1:Nat):Int):Value)=lI A f (i+1) (f A[i]):=by
  unfold lI;rw [gP,b,if_pos rfl,Xp];rfl
 rw [e]
 refine kZ fun v d a=>?_
 unfold lI
 rw [gP,b,if_neg (fun e=>a e.symm),XH]
def tP(A:List Arc)(f:Arc->Nat)(N i:Nat)(cs:List Value):Prop:=
 cs.length=A.length/\ ∀v r x,v<N->(outs A f i v)[r]? =some x->cs[start A f v+r]? =some (.int .i64 (x:Nat))
theorem fill_zero{A:List Arc}{f:Arc->Nat}{N:Nat}:tP A f N 0 ((Xa A.length).map fun _=>.int .i64 0):=
 ⟨by simp,fun v r x _ h=>by simp [outs]at h⟩
theorem fill_step{A:List Arc}{f:Arc->Nat}{N i:Nat}{cs:List Value}(h:tP A f N i cs)(k:i<A.length):tP A f N (i+1) (cs.set (start A f (f A[i])+(outs A f i (f A[i])).length) (.int .i64 (i:Nat))):=by
 have c:A.getD i default=A[i]:=by simp [zN,k]
 have g:(outs A f (i+1) (f A[i])).length<=(outs A f A.length (f A[i])).length:=uE A f (by omega) _
 rw [gP,c,if_pos rfl,Xp]at g
 have hlt:(outs A f i (f A[i])).length<(outs A f A.length (f A[i])).length:=by simp at g;omega
 have l:=oI A f (f A[i])
 refine⟨by rw [XI];exact h.1,fun v r x m a=>?_⟩
 have n:r<(outs A f (i+1) v).length:=(List.getElem?_eq_some_iff.1 a).1
 have d:r<(outs A f A.length v).length:=Nat.lt_of_lt_of_le n (uE A f (by omega) v)
 rw [Xn]
 by_cases e:start A f (f A[i])+(outs A f i (f A[i])).length=start A f v+r
 . obtain⟨b,o⟩:=zn A f hlt d e
   subst b
   rw [if_pos e,if_pos (by rw [h.1];omega)]
   rw [gP,c,if_pos rfl,XT,if_neg (by omega),o,Nat.sub_self]at a
   simp at a
   rw [a]
 . rw [if_neg e]
   refine h.2 v r x m ?_
   rw [gP,c]at a
   by_cases b:f A[i]=v
   . rw [if_pos b,XT]at a
     subst b
     by_cases j:r<(outs A f i (f A[i])).length
     . rw [if_pos j]at a;exact a
     . rw [if_neg j]at a
       have:=(List.getElem?_eq_some_iff.1 a).1
       simp at this
       exact absurd (by omega) e
   . rw [if_neg b,XH]at a;exact a
theorem of1_ok {h0:Hp} (ok:h0.t.Sized h0.n) {u:Gra} (J:Good u) {vx vy K:Value} {b:Nat} (hb:Row h0 b [.int .i64 u.nodes,vx,vy,K] 1) (ga:c8 h0 vx vy K u) {g:FuncId} {f:Arc->Nat} (hk:KeyF zM g f) (hf: ∀a∈u.arcs,f a<u.nodes):
 Ret zM 102 [.func (.func g) #[] #[],ptrTo b] h0 fun v h'=>Gr h0 h'/\fj h' h0.n v u.nodes (outs u.arcs f u.arcs.length):=by
 have S:=Si ok
 have n2:=J.n2
 have L:=J.many
 obtain⟨N,X,Y,A⟩:=u
 simp only []at hb n2 L hf
 have M:az h0 3 cE K A:=ga.A
 have l0:=hb.load1 (o:=0) rfl
 have l3:=hb.load1 (o:=3) rfl
 refine ae (n:=85) (rs:=[.tmp 3]) rfl Tryz.e102 rfl rfl rfl (lbt rfl) ?_
 simp only [BS,LB,Nat.reduceLT,Nat.reduceEqDiff,Fc,l0]
 refine ah (po (by exact Tryz.t33.1) (by exact Tryz.e3E) (by omega) (by omega)) S ?_;clear S;intro h B S al
 rw [uC]at S
 replace S:St NoM h0 h [(B,.row ((Xa N).map (lI A f 0)) 1)] []:=S
 simp only [BS,LB,Nat.reduceLT,Nat.reduceEqDiff,Fc,S.old l3 (fun h=>h),M.lenq,XF]
 refine cm (fun(i:Nat) m h=>i<=A.length/\St NoM h0 h [(B,.row ((Xa N).map (lI A f i)) 1)] []/\m 0=.func (.func g) #[] #[]/\m 1=ptrTo b/\m 4=.slice (some ⟨B,0,none⟩) N N/\m 18=K/\m 19=.int .i64 A.length/\m 20=.int .i64 i) (fun i=>A.length-i) ?_ 0 _ _ ?_
 . clear S
   intro i O m h ⟨hi,S,r0,r1,r4,r18,r19,r20⟩
   by_cases hlt:i<A.length
   . obtain⟨c,o,t,C⟩:=(M.gr S.gr).ix (kd:=.i64) g8 hlt
     have p:f A[i]<N:=hf _ (Xz hlt)
     have a2:=lh A f i (f A[i])
     have w:aq .i64 ((i:Int)+1)=((i+1:Nat):Int):=by rw [wrap64]<;>omega
     have W:aq .i64 (((outs A f i (f A[i])).length:Int)+1)=(((outs A f i (f A[i])).length+1:Nat):Int):=by rw [wrap64]<;>omega
     simp only [BS,LB,Nat.reduceLT,Nat.reduceEqDiff,Fc,r18,r19,r20,aW,hlt,t,C]
     refine ah aA S ?_;clear S;intro h b6 S ax
     simp only [BS,LB,Nat.reduceLT,Nat.reduceEqDiff,cE]
     refine aC (S.store (i:=0) rfl ?_ ?_ rfl rfl ?_ ono) ?_
     . exact(by exact Tryz.t99.2.1)
     . exact(by intro x e;cases e)
     . exact lbt rfl
     clear S;rintro h ⟨S,y⟩;clear y;simp only [LC,ag,lay,Xc,Xd,Nat.reduceAdd]at S
     simp only [BS,LB,Nat.reduceLT,Nat.reduceEqDiff,Fc,r0,r4,S.lds (b:=b6) (o:=0) (n:=3) m0 (lbt rfl)]
     refine an (hk _ A[i] S.ok) ?_;intro h g;replace S:=S.call g;clear g
     have D:=S.ld (b:=B) (o:=f A[i]) m1 (kc (F:=lI A f i) p)
     unfold lI at D
     simp only [BS,LB,Nat.reduceLT,Nat.reduceEqDiff,Fc,p,D,W]
     refine aC (aI S (i:=1) rfl Tryz.t3.2.2.1 bM (by simpa using p) ono) ?_
     clear S D;rintro h ⟨S,y⟩;clear y
     simp only [LC]at S
     rw [cnt_set hlt]at S
     replace S:=S.drop1
     simp only [BS,LB,Nat.reduceLT,Nat.reduceEqDiff,r20,w]
     exact O (i+1) _ _ (by omega) ⟨by omega,S,by simp [aa,r0],by simp [aa,r1,ab],by simp [aa,r4],by simp [aa,r18],by simp [aa,r19],by simp [aa]⟩
   . have E : i=A.length:=by omega
     subst E
     simp only [BS,LB,Nat.reduceLT,r19,r20,aW,hlt]
     refine aE (aJ rfl) (q:=72) (ps:=[]) (by kernel_rfl) ?_
     simp only [BS,LB,cls,Nat.reduceLT,Nat.reduceEqDiff,Nat.reduceAdd,Nat.reducePow,Nat.reduceDiv,Nat.reduceMod,Nat.reduceLeDiff,Fc,r1,S.old l3 (fun h=>h),M.lenq]
     refine df (po (by exact Tryz.t33.1) (by exact Tryz.e3E) (by omega) (by omega)) S ?_;clear S;intro h d S Q ay
     rw [uC]at S
     simp only [BS,LB,cls,Nat.reduceLT,Nat.reduceEqDiff,Nat.reduceAdd,Nat.reducePow,Nat.reduceDiv,Nat.reduceMod,Nat.reduceLeDiff,Fc,r1,S.old l0 (fun h=>h),XF]
     refine df (po (by exact Tryz.t189.1) (by exact Tryz.e33E) (by omega) (by omega)) S ?_;clear S;intro h H S R aL
     rw [uC]at S
     simp only [BS,LB,cls,Nat.reduceLT,Nat.reduceEqDiff,Nat.reduceAdd,Nat.reducePow,Nat.reduceDiv,Nat.reduceMod,Nat.reduceLeDiff,Fc,r4,XF]
     have e0:(Xa N).map (fun v=>if v<0 then fV A f d v 0 else .slice none 0 0)=(Xa N).map (fun _=>(.slice none 0 0:Value)):=by simp
     rw [<-e0]at S
     refine cm (fun(j:Nat) m h=>j<=N/\St NoM h0 h [(H,.row ((Xa N).map fun v=>if v<j then fV A f d v 0 else .slice none 0 0) 1),(d,.row ((Xa A.length).map fun _=>.int .i64 0) 1),(B,.row ((Xa N).map (lI A f A.length)) 1)] []/\
      m 0=.func (.func g) #[] #[]/\m 1=ptrTo b/\m 7=.slice (some ⟨d,0,none⟩) A.length A.length/\m 8=.slice (some ⟨H,0,none⟩) N N/\m 9=.int .i64 (start A f j)/\m 40=.slice (some ⟨B,0,none⟩) N N/\m 41=.int .i64 N/\m 42=.int .i64 j) (fun j=>N-j) ?_ 0 _ _ ?_
     . clear S r0 r1 r4 r18 r19 r20
       intro j O m h ⟨hj,S,r0,r1,r7,r8,r9,r40,r41,r42⟩
       by_cases z:j<N
       . have D:=S.ld (b:=B) (o:=j) m2 (kc (F:=lI A f A.length) z)
         unfold lI at D
         have ad:=oI A f j
         have w:aq .i64 ((j:Int)+1)=((j+1:Nat):Int):=by rw [wrap64]<;>omega
         have W:aq .i64 ((start A f j:Int)+((outs A f A.length j).length:Nat))=((start A f j+(outs A f A.length j).length:Nat):Int):=by rw [wrap64]<;>omega
         have sl:dS zM 33 (.slice (some ⟨d,0,none⟩) A.length A.length) (some (.int .i64 (start A f j))) (some (.int .i64 (start A f j))) (some (.int .i64 ((start A f j+(outs A f A.length j).length:Nat):Int)))=some (fV A f d j 0):=by
          rw [slice_at Tryz.t33.1 Tryz.t3.2.2.1 (by omega) (by omega)]
          unfold fV
          rw [Nat.add_sub_cancel_left,Xg]
          by_cases G:(outs A f A.length j).length=0
          . rw [if_pos (by omega),if_pos G]
          . rw [if_neg (by omega),if_neg G]
         have fr:Fl (fV A f d j 0):=bF
         simp only [BS,LB,Nat.reduceLT,Nat.reduceEqDiff,Option.map_some,Fc,r7,r8,r9,r40,r41,r42,aW,z,D,W,sl]
         refine aC (aI S (i:=0) rfl Tryz.t33.2.2.1 fr (by simpa using z) ono) ?_
         clear S D;rintro h ⟨S,y⟩;clear y
         simp only [LC]at S
         rw [show((Xa N).map fun v=>if v<j then fV A f d v 0 else .slice none 0 0).set j (fV A f d j 0)=(Xa N).map fun v=>if v<j+1 then fV A f d v 0 else .slice none 0 0 from by
          have:=kZ (N:=N) (k:=j) (F:=fun v=>if v<j then fV A f d v 0 else .slice none 0 0) (F':=fun v=>if v<j+1 then fV A f d v 0 else .slice none 0 0) (fun v I T=>by
           show ite _ _ _=ite _ _ _
           by_cases h1:v<j
           . rw [if_pos h1,if_pos (by omega)]
           . rw [if_neg h1,if_neg (by omega)])
          simp only [if_pos (show j<j+1 by omega)]at this
          exact this]at S
         simp only [BS,LB,Nat.reduceLT,Nat.reduceEqDiff,r9,r42,w,W]
         exact O (j+1) _ _ (by omega) ⟨by omega,S,by simp [aa,r0],by simp [aa,r1,ab],by simp [aa,r7],by simp [aa,r8],by simp [aa,start],by simp [aa,r40],by simp [aa,r41],by simp [aa]⟩
       . have af:j=N:=by omega
         subst af
         simp only [BS,LB,Nat.reduceLT,Nat.reduceEqDiff,Fc,r1,r41,r42,aW,z,S.old l3 (fun h=>h),M.lenq]
         have e1:((Xa j).map fun v=>if v<j then fV A f d v 0 else .slice none 0 0)=(Xa j).map fun v=>fV A f d v (outs A f 0 v).length:=by
          refine List.map_congr_left fun v I=>?_
          rw [if_pos (List.mem_range.1 I)];rfl
         rw [e1]at S
         refine cm (fun(i:Nat) m h=>i<=A.length/\(∃Z,tP A f j i Z/\St NoM h0 h [(H,.row ((Xa j).map fun v=>fV A f d v (outs A f i v).length) 1),(d,.row Z 1),(B,.row ((Xa j).map (lI A f A.length)) 1)] [])/\
          m 0=.func (.func g) #[] #[]/\m 1=ptrTo b/\m 8=.slice (some ⟨H,0,none⟩) j j/\m 62=K/\m 63=.int .i64 A.length/\m 64=.int .i64 i) (fun i=>A.length-i) ?_ 0 _ _ ?_
         . clear S r0 r1 r7 r8 r9 r40 r41 r42
           intro i O m h ⟨hi,⟨Z,hcs,S⟩,r0,r1,r8,r62,r63,r64⟩
           by_cases hlt:i<A.length
           . obtain⟨c,o,t,C⟩:=(M.gr S.gr).ix (kd:=.i64) g8 hlt
             have p:f A[i]<j:=hf _ (Xz hlt)
             have w:aq .i64 ((i:Int)+1)=((i+1:Nat):Int):=by rw [wrap64]<;>omega
             simp only [BS,LB,Nat.reduceLT,Nat.reduceEqDiff,Fc,r62,r63,r64,aW,hlt,t,C]
             refine ah aA S ?_;clear S;intro h U S ai
             simp only [BS,LB,Nat.reduceLT,Nat.reduceEqDiff,cE]
             refine aC (S.store (i:=0) rfl ?_ ?_ rfl rfl ?_ ono) ?_
             . exact(by exact Tryz.t99.2.1)
             . exact(by intro x e;cases e)
             . exact lbt rfl
             clear S;rintro h ⟨S,y⟩;clear y;simp only [LC,ag,lay,Xc,Xd,Nat.reduceAdd]at S
             simp only [BS]
             refine aE (aJ rfl) (q:=2184) (ps:=[(3,6)]) (by kernel_rfl) ?_
             simp only [BS,LB,cls,Nat.reduceLT,Nat.reduceEqDiff,Nat.reduceAdd,Nat.reducePow,Nat.reduceDiv,Nat.reduceMod,Nat.reduceLeDiff,Fc,r0,r8,S.lds (b:=U) (o:=0) (n:=3) m0 (lbt rfl)]
             refine uF (hk _ A[i] S.ok) ?_
             intro h V;replace S:=S.call V;clear V
             simp only [BS,LB,cls,Nat.reduceLT,Nat.reduceEqDiff,Nat.reduceAdd,Nat.reducePow,Nat.reduceDiv,Nat.reduceMod,Nat.reduceLeDiff,Fc,r0,r8,S.lds (b:=U) (o:=0) (n:=3) m0 (lbt rfl)]
             refine uF (hk _ A[i] S.ok) ?_
             intro h V;replace S:=S.call V;clear V
             have hd:A.getD i default=A[i]:=by simp [zN,hlt]
             have hl:(outs A f (i+1) (f A[i])).length<=(outs A f A.length (f A[i])).length:=uE A f (by omega) _
             rw [gP,hd,if_pos rfl,Xp,XR]at hl
             have ad:=oI A f (f A[i])
             have hK:(outs A f A.length (f A[i])).length≠0:=by omega
             have lr:=S.ld (b:=H) (o:=f A[i]) m1 (kc (F:=fun v=>fV A f d v (outs A f i v).length) p)
             simp only [fV,if_neg hK]at lr
             simp only [BS,LB,cls,Nat.reduceLT,Nat.reduceEqDiff,Nat.reduceAdd,Nat.reducePow,Nat.reduceDiv,Nat.reduceMod,Nat.reduceLeDiff,Fc,p,lr]
             refine df (cB (by exact Tryz.t33.1) (by exact Tryz.e3E) (by decide) (by rfl)) S ?_;clear S;intro h bs S a0 a1;simp only [LC,bq,bV,ag,Nat.reduceMul,Nat.reduceAdd,Xi,Xf,Xg,Xm]at S
             simp only [BS,LB,cls,Nat.reduceLT,Nat.reduceEqDiff,Nat.reduceAdd,Nat.reducePow,Nat.reduceDiv,Nat.reduceMod,Nat.reduceLeDiff]
             obtain⟨h2,e2,S2,ak⟩:=S.fill (i:=3) (x:=.slice (some ⟨bs,0,none⟩) 1 1) (v:=.int .i64 (i:Nat)) (off:=start A f (f A[i])) (len:=(outs A f i (f A[i])).length) (cap:=(outs A f A.length (f A[i])).length) (s:=none) rfl Tryz.t33.1 Tryz.e3E Tryz.t33.2.2.2.2.2
              (by simp only [aP];rw [S.lds (b:=bs) (o:=0) (n:=1*1) m0 (lbt rfl)];rfl) bM (by omega) (by have:=hcs.1;omega) ono (ts:=[])
             refine jE (P:=fun h' v=>h'=h2/\v=.slice (some ⟨d,start A f (f A[i]),none⟩) ((outs A f i (f A[i])).length+1) (outs A f A.length (f A[i])).length) ⟨_,_,e2,rfl,rfl⟩ ?_
             rintro h v ⟨rfl,rfl⟩
             clear S e2 ak;have S:=S2;clear S2
             simp only [LC]at S
             simp only [BS,LB,cls,Nat.reduceLT,Nat.reduceEqDiff,Nat.reduceAdd,Nat.reducePow,Nat.reduceDiv,Nat.reduceMod,Nat.reduceLeDiff,Fc,p]
             refine dP (aI S (i:=2) rfl Tryz.t33.2.2.1 bF (by simpa using p) ono) ?_
             clear S;rintro h ⟨S,y⟩;clear y
             simp only [LC]at S
             have e3:((Xa j).map fun v=>fV A f d v (outs A f i v).length).set (f A[i]) (.slice (some ⟨d,start A f (f A[i]),none⟩) ((outs A f i (f A[i])).length+1) (outs A f A.length (f A[i])).length)=(Xa j).map fun v=>fV A f d v (outs A f (i+1) v).length:=by
              have:=kZ (N:=j) (k:=f A[i]) (F:=fun v=>fV A f d v (outs A f i v).length) (F':=fun v=>fV A f d v (outs A f (i+1) v).length) (fun v I T=>by
               show fV _ _ _ _ _=fV _ _ _ _ _
               rw [gP,hd,if_neg (fun e=>T e.symm),XH])
              rw [<-this]
              congr 1
              show _=fV _ _ _ _ _
              rw [gP,hd,if_pos rfl,Xp]
              unfold fV
              rw [if_neg hK];rfl
             rw [e3]at S
             replace S:=S.drop1.drop1
             simp only [BS,LB,Nat.reduceLT,Nat.reduceEqDiff,Nat.reduceAdd,r64,w]
             refine⟨by simp only [bj,bA,aS,bK,aY,ne_eq,not_false_eq_true,bJ,cb,a9,aX,cu,cR,aO,Nat.reduceLT,Nat.reduceEqDiff,reduceIte,Xu,r0,r1,r8,ab,note_runq,mW,vw,pair_n],?_⟩
             exact O (i+1) _ _ (by omega) ⟨by omega,⟨_,fill_step hcs hlt,S⟩,by simp [aa,r0],by simp [aa,r1,ab],by simp [aa,r8],by simp [aa,r62],by simp [aa,r63],by simp [aa]⟩
           . have E:i=A.length:=by omega
             subst E
             simp only [BS,LB,ac,Nat.reduceLT,Nat.reduceEqDiff,r8,r63,r64,aW,hlt]
             refine⟨S.gr,H,_,rfl,R,S.row m0,by simp,fun v I=>⟨_,kc I,.inr ⟨d,_,none,_,rfl,XC _,?_⟩,fun c (hc:d=c)=>hc▸Q⟩⟩
             have hR:=S.row (b:=d) (l:=Z) (md:=1) m1
             have ht:=oI A f v
             have hl:=hcs.1
             rw [Xg]
             by_cases G:(outs A f A.length v).length=0
             . rw [if_pos G,G,hR.load (by omega)]
               rw [List.length_eq_zero_iff.1 G];rfl
             . rw [if_neg G,hR.load (by omega)]
               congr 1
               refine Xv fun r=>?_
               have e4:(outs A f A.length v).flatMap cI=(outs A f A.length v).map fun x=>.int .i64 (x:Nat):=by
                rw [XS,List.map_eq_flatMap,XS];rfl
               rw [e4,Xs,List.getElem?_take,List.getElem?_drop]
               by_cases hr:r<(outs A f A.length v).length
               . rw [if_pos hr,hcs.2 v r _ I (Xq hr),Xq hr];rfl
               . rw [if_neg hr,XG (by omega)];rfl
         . exact⟨XV _,⟨_,fill_zero,S⟩,by simp [aa,r0],by simp [aa,r1,ab],by simp [aa,r8],by simp [aa],by simp [aa],by simp [aa]⟩
     . exact⟨XV _,S,by simp [aa,r0],by simp [aa,r1,ab],by simp [aa],by simp [aa],by simp [aa,start],by simp [aa,r4],by simp [aa],by simp [aa]⟩
 . exact⟨XV _,S,by simp [aa,bR],by simp [aa,bR,cJ,ab],by simp [aa],by simp [aa],by simp [aa],by simp [aa]⟩
def Tryz.Fy:=aj t1<|aj t2<|aj t3<|aj t4<|aj t24<|aj t29<|aj Z0<|aj t32<|aj t33<|aj Z2<|aj t189<|aj Z1<|aj t192<|t193
def Tryz.F0d:=aj t1<|aj t2<|aj t3<|aj t4<|aj t5<|aj t24<|aj t29<|aj Z0<|aj t32<|aj t41<|aj t45<|aj Z2<|aj Z23<|aj t104<|aj t106<|aj r106<|aj t189<|Z1
theorem of_ok{h0:Hp}(E:h0.t.Sized h0.n){q:Gra}(d:Good q){r s t:Value}(u:c8 h0 r s t q){m:Nat}(w:m<=h0.n)(F: ∀c,ar r c\/ar s c\/ar t c->m<=c):
 Ret zM 45 [iO q r s t] h0 fun v h'=>Gr h0 h'/\bL h' m v q:=by
 have S:=Si E
 refine ae (n:=20) (rs:=[.tmp 2]) rfl Tryz.e45 rfl rfl rfl (lbt rfl) ?_
 simp only [BS,Nat.reduceLT,iO]
 refine ah (a8 (by intro x e;cases e)) S ?_;clear S;intro h b S G;simp only [ag]at S
 simp only [BS,LB,Nat.reduceLT,Nat.reduceEqDiff,Nat.reduceAdd,Nat.reduceLeDiff,Fy,Xw,Xt,Xx,S.lds (b:=b) (o:=0) (n:=4) m0 (lbt rfl)]
 refine ah (a8 (by intro x e;cases e)) S ?_;clear S;intro h l S p;simp only [ag]at S
 simp only [BS,LB,Nat.reduceLT,Nat.reduceEqDiff]
 have H:=S.fr.n
 have y:=(S.row (b:=l) m0).lt S.ok
 refine step_ret (of1_ok S.ok d (S.row m1) (u.gr S.gr) of2_key (fun a z=>(d.arcs a z).1)) ?_;intro B h ⟨g,f⟩;replace S:=S.call g;clear g
 simp only [BS,LB,Nat.reduceLT,Nat.reduceEqDiff]
 have I:=S.fr.n
 have A:=(S.row (b:=l) m0).lt S.ok
 refine step_ret (of1_ok S.ok d (S.row m1) (u.gr S.gr) of3_key (fun a z=>(d.arcs a z).2.1)) ?_;intro v h ⟨g,k⟩;replace S:=S.call g;replace f:=f.gr g;clear g
 have J:Fl v:=by obtain⟨_,_,rfl,_⟩:=k;exact bF
 have K:Fl B:=by obtain⟨_,_,rfl,_⟩:=f;exact bF
 simp only [BS,LB,Nat.reduceLT,Nat.reduceEqDiff,Fy]
 have C: ∀c,c=l->c<_:=fun c e=>e▸y
 have D: ∀c,c=l->c<_:=fun c e=>e▸A
 refine aC (aI S (i:=0) rfl ?_ ?_ ?_ ono) ?_
 . exact(by simp only [Fy])
 . exact(by assumption)
 . exact Xe (lbt rfl)
 clear S;rintro h ⟨S,j⟩;replace f:=f.mo j C;replace k:=k.mo j D;clear j;simp only [LC,ag,lay,Xc,Xd,Nat.reduceAdd]at S
 simp only [BS,LB,Nat.reduceLT,Nat.reduceEqDiff,Fy]
 refine aC (aI S (i:=0) rfl ?_ ?_ ?_ ono) ?_
 . exact(by simp only [Fy])
 . exact(by assumption)
 . exact Xe (lbt rfl)
 clear S;rintro h ⟨S,j⟩;replace f:=f.mo j C;replace k:=k.mo j D;clear j;simp only [LC,ag,lay,Xc,Xd,Nat.reduceAdd]at S
 simp only [BS,LB,ac,Nat.reduceLT,Nat.reduceEqDiff]
 exact⟨S.gr,l,r,s,t,B,v,rfl,S.row m0,u.gr S.gr,f.low (Xl w H),k.low (Xl w I),Xl w p,F⟩
theorem uT{h0:Hp}(l:h0.t.Sized h0.n){d:Gra}(a:Good d){f i j:Value}(k:c8 h0 f i j d):
 Ret zM 10 [iO d f i j] h0 fun r h'=> ∃v,r=.tuple #[v,.nilIface]/\Gr h0 h'/\bL h' h0.n v d:=by
 have S:=Si l
 refine ae (n:=17) (rs:=[.tmp 2,.tmp 3]) rfl Tryz.e10 rfl rfl rfl (lbt rfl) ?_
 simp only [BS,Nat.reduceLT,iO]
 refine ah (a8 (by intro x e;cases e)) S ?_;clear S;intro h b S p;simp only [ag]at S
 simp only [BS,LB,Nat.reduceLT,Nat.reduceEqDiff,F0d,Xw,Xt,Xx,S.lds (b:=b) (o:=0) (n:=4) m0 (lbt rfl)]
 refine an (check_ok S.ok a (k.gr S.gr)) ?_;intro h g;replace S:=S.call g;clear g
 simp only [BS,LB,Nat.reduceLT,Nat.reduceEqDiff,F0d,Xw,Xt,Xx,S.lds (b:=b) (o:=0) (n:=4) m0 (lbt rfl)]
 have q:=S.fr.n
 refine step_ret (own_ok S.ok a (k.gr S.gr)) ?_;intro v h ⟨g,vx',vy',va',s,ga',hz,_⟩;replace S:=S.call g;clear g
 subst s
 simp only [BS,LB,Nat.reduceLT,Nat.reduceEqDiff]
 refine step_ret (of_ok S.ok a ga' (m:=h0.n) S.fr.n (fun c t=>Xl q (hz c t))) ?_;intro v h ⟨g,R⟩;replace S:=S.call g;clear g
 simp only [BS,LB,ac,Nat.reduceLT,Nat.reduceEqDiff]
 exact⟨_,rfl,S.gr,R⟩
def pos:List Int->Int->Option Nat
 | [],_=>none
 |y::a,x=>if x=y then some 0 else(pos a x).map (· +1)
theorem St.mput{M:Nat->Prop}{h0 h:Hp}{L:List (Nat×Ob)}{G:List GL}(S:St M h0 h L G){E:Env}{t kt el:TypeId}{i b c:Nat}{a:List (Value×Value×Nat)}{k v:Value}(d:L[i]? =some (b,.map a c))(f:E.und t=some (.map kt el))(hf:aR E kt k=true)(g:aK k a=some none):
 ∃h',dD E h t (.map (some b)) k v=some h'/\St M h0 h' (L.set i (b,.map (a++[(k,v,c)]) (c+1))) G:=by
 have e:h.get b=some (.map a c):=(S.own _ (Xr d)).2
 refine⟨h.put b (.map (a++[(k,v,c)]) (c+1)),?_,S.put d ?_⟩
 . simp only [dD,iN,f,hf,cond_true,e,g]
 . show(h.put b _).get b=_
   rw [Hp.get_put,if_pos ⟨rfl,by rw [e];rfl⟩]
end Go.Ab
end
section
namespace Go.Ab
structure Hd where
 id:Nat
 key:Int
deriving Inhabited,DecidableEq
def hle(a b:Hd):Prop:=a.key<b.key\/(a.key=b.key/\a.id<=b.id)
def hlt(a b:Hd):Prop:=a.key<b.key\/(a.key=b.key/\a.id<b.id)
instance (a b:Hd):Decidable (hlt a b):=by unfold hlt;infer_instance
theorem tN{a b:Hd}(h: ¬hlt a b):hle b a:=by unfold hlt at h;unfold hle;omega
theorem qj{a b:Hd}(h:hlt a b):hle a b:=by unfold hlt at h;unfold hle;omega
theorem jq{a b c:Hd}(h:hle a b)(k:hle b c):hle a c:=by unfold hle at*;omega
theorem sn(a:Hd):hle a a:=by unfold hle;omega
def sw(l:List Hd)(i k:Nat):List Hd:=(l.set i (l.getD k default)).set k (l.getD i default)
theorem fU(l:List Hd)(i k:Nat):(sw l i k).length=l.length:=by simp [sw]
theorem jt(l:List Hd)(i j:Nat)(x:Hd):(l.set i x).getD j default=if i=j/\j<l.length then x else l.getD j default:=by
 rw [zN,zN,Xn]
 by_cases h:i=j
 . subst h
   by_cases a:i<l.length
   . simp [a]
   . simp [a]
 . simp [h]
theorem ia(l:List Hd){i k:Nat}(f:i<l.length)(g:k<l.length)(j:Nat):(sw l i k).getD j default=if j=k then l.getD i default else if j=i then l.getD k default else l.getD j default:=by
 unfold sw
 rw [jt,jt,XI]
 by_cases a:k=j
 . subst a;simp [g]
 . have b: ¬j=k:=fun e=>a e.symm
   simp only [a,b,false_and,if_false]
   by_cases c:i=j
   . subst c;simp [f]
   . have d: ¬j=i:=fun e=>c e.symm
     simp [c,d]
theorem rG(l:List Hd){i k:Nat}(a:i<l.length)(b:k<l.length):(sw l i k).Perm l:=by
 have:((l.set i l[k]).set k l[i]).Perm l:=List.set_set_perm a b
 unfold sw
 rwa [show l.getD k default=l[k] by simp [zN,b],show l.getD i default=l[i] by simp [zN,a]]
def kP(l:List Hd):Prop:= ∀j,0<j->j<l.length->hle (l.getD ((j-1)/4) default) (l.getD j default)
def pQ(l:List Hd)(i:Nat):Prop:=(∀j,0<j->j<l.length->j≠i->hle (l.getD ((j-1)/4) default) (l.getD j default))/\ ∀j,0<j->j<l.length->(j-1)/4=i->0<i->hle (l.getD ((i-1)/4) default) (l.getD j default)
theorem up_done{l:List Hd}{i:Nat}(h:pQ l i)(a:i=0\/hle (l.getD ((i-1)/4) default) (l.getD i default)):kP l:=by
 intro j b c
 by_cases e:j=i
 . subst e;exact a.resolve_left (by omega)
 . exact h.1 j b c e
theorem up_step{l:List Hd}{i:Nat}(f:i<l.length)(h:pQ l i)(h0:0<i)(m:hlt (l.getD i default) (l.getD ((i-1)/4) default)):pQ (sw l i ((i-1)/4)) ((i-1)/4):=by
 have c:(i-1)/4<l.length:=by omega
 generalize d:(i-1)/4=p at*
 have s:p<i:=by omega
 refine⟨fun j e b g=>?_,fun j e b g o=>?_⟩
 . rw [fU]at b
   rw [ia l f c,ia l f c,if_neg g]
   by_cases a:j=i
   . subst a;rw [d,if_pos rfl,if_pos rfl];exact qj m
   . rw [if_neg a]
     by_cases k:(j-1)/4=p
     . rw [if_pos k]
       have:=h.1 j e b a
       rw [k]at this
       exact jq (qj m) this
     . rw [if_neg k]
       by_cases e3:(j-1)/4=i
       . rw [if_pos e3];have:=h.2 j e b e3 h0;rwa [d]at this
       . rw [if_neg e3];exact h.1 j e b a
 . rw [fU]at b
   have q: ¬(p-1)/4=p:=by omega
   have r: ¬(p-1)/4=i:=by omega
   rw [ia l f c,ia l f c,if_neg q,if_neg r,if_neg (show¬j=p by omega)]
   have n:=h.1 p o c (by omega)
   by_cases a:j=i
   . rw [if_pos a];exact n
   . rw [if_neg a]
     have:=h.1 j e b a
     rw [g]at this
     exact jq n this
def rH(l:List Hd)(i:Nat):Prop:=(∀j,0<j->j<l.length->(j-1)/4≠i->hle (l.getD ((j-1)/4) default) (l.getD j default))/\ ∀j,0<j->j<l.length->(j-1)/4=i->0<i->hle (l.getD ((i-1)/4) default) (l.getD j default)
theorem dn_done{l:List Hd}{i:Nat}(h:rH l i)(c: ∀j,0<j->j<l.length->(j-1)/4=i->hle (l.getD i default) (l.getD j default)):kP l:=by
 intro j a b
 by_cases e:(j-1)/4=i
 . rw [e];exact c j a b e
 . exact h.1 j a b e
theorem dn_step{l:List Hd}{i b:Nat}(h:rH l i)(b0:0<b)(c:b<l.length)(k:(b-1)/4=i)(n:hlt (l.getD b default) (l.getD i default))(o: ∀j,0<j->j<l.length->(j-1)/4=i->hle (l.getD b default) (l.getD j default)):rH (sw l i b) b:=by
 have g:i<l.length:=by omega
 refine⟨fun j d a m=>?_,fun j d a m _=>?_⟩
 . rw [fU]at a
   rw [ia l g c,ia l g c,if_neg m]
   by_cases e:(j-1)/4=i
   . rw [if_pos e]
     by_cases f:j=b
     . rw [if_pos f];exact qj n
     . rw [if_neg f,if_neg (show¬j=i by omega)];exact o j d a e
   . rw [if_neg e]
     by_cases f:j=b
     . subst f;exact absurd k e
     . rw [if_neg f]
       by_cases e3:j=i
       . subst e3;rw [if_pos rfl];exact h.2 b b0 c k d
       . rw [if_neg e3];exact h.1 j d a e
 . rw [fU]at a
   rw [ia l g c,ia l g c,k,if_neg (show¬i=b by omega),if_pos rfl,if_neg (show¬j=b by omega),if_neg (show¬j=i by omega)]
   have:=h.1 j d a (by omega)
   rwa [m]at this
theorem yd{l:List Hd}(h:kP l): ∀j,j<l.length->hle (l.getD 0 default) (l.getD j default):=by
 intro j
 induction j using Nat.strongRecOn with
 | _ j a=>
   intro b
   by_cases e:j=0
   . subst e;exact sn _
   . exact jq (a ((j-1)/4) (by omega) (by omega)) (h j (by omega) b)
theorem jL(l m:List Hd){j:Nat}(a:j<l.length):(l++m).getD j default=l.getD j default:=by
 rw [zN,zN,Xh a]
theorem vq{l:List Hd}(h:kP l)(x:Hd):pQ (l++[x]) l.length:=by
 refine⟨fun j b a c=>?_,fun j b a c _=>?_⟩
 . simp at a
   rw [jL l _ (by omega),jL l _ (by omega)]
   exact h j b (by omega)
 . simp at a;omega
theorem AF{l:List Hd}(h:kP l){i:Nat}{x:Hd}(f:hle x (l.getD i default)):pQ (l.set i x) i:=by
 refine⟨fun j b a c=>?_,fun j b a c g=>?_⟩
 . rw [XI]at a
   rw [jt,jt,if_neg (show¬(i=j/\_)from fun e=>c e.1.symm)]
   split
   . rename_i e;have:=h j b a;rw [<-e.1]at this;exact jq f this
   . exact h j b a
 . rw [XI]at a
   rw [jt,jt,if_neg (show¬(i=j/\_) by omega),if_neg (show¬(i=(i-1)/4/\_) by omega)]
   have k:=h i g (by omega)
   have d:=h j b a
   rw [c]at d
   exact jq k d
theorem getD_take(l:List Hd){n j:Nat}(a:j<n):(l.take n).getD j default=l.getD j default:=by
 rw [zN,zN,XM a]
theorem heap_pop{l:List Hd}(h:kP l)(d:0<l.length):rH ((sw l 0 (l.length-1)).take (l.length-1)) 0:=by
 refine⟨fun j a b c=>?_,fun j a b c e=>?_⟩
 . rw [List.length_take,fU]at b
   rw [getD_take _ (by omega),getD_take _ (by omega),ia l (by omega) (by omega),ia l (by omega) (by omega),if_neg (by omega),if_neg (by omega),if_neg (by omega),if_neg (by omega)]
   exact h j a (by omega)
 . omega
def fW(l:List Hd)(K:Nat->Option Int):Prop:=(l.map Hd.id).Nodup/\ ∀v k,K v=some k↔⟨v,k⟩∈l
def ct(K:Nat->Option Int)(v:Nat)(x:Option Int):Nat->Option Int:=fun u=>if u=v then x else K u
theorem fW.perm{l m:List Hd}{K:Nat->Option Int}(h:fW l K)(p:m.Perm l):fW m K:=
 ⟨(p.map Hd.id).nodup_iff.2 h.1,fun v k=>by rw [h.2];exact p.mem_iff.symm⟩
theorem fW.free{l:List Hd}{K:Nat->Option Int}(h:fW l K){v:Nat}(a:K v=none):v∉l.map Hd.id:=by
 intro b
 obtain⟨x,c,rfl⟩:=List.mem_map.1 b
 have:=(h.2 x.id x.key).2 c
 rw [a]at this;cases this
theorem fW.push{l:List Hd}{K:Nat->Option Int}(h:fW l K){v:Nat}(d:K v=none)(k:Int):fW (l++[⟨v,k⟩]) (ct K v (some k)):=by
 refine⟨?_,fun u x=>?_⟩
 . rw [List.map_append,XJ]
   exact⟨h.1,by simp,fun a g b f e=>h.free d (by simp at f;subst f;subst e;exact g)⟩
 . unfold ct
   by_cases e:u=v
   . subst e
     rw [if_pos rfl,XO]
     constructor
     . intro e;cases e;exact .inr (by simp)
     . rintro(c|c)
       . have:=(h.2 u x).2 c;rw [d]at this;cases this
       . simp at c;rw [c]
   . rw [if_neg e,XO,h.2]
     constructor
     . exact .inl
     . rintro(c|c)
       . exact c
       . simp at c;exact absurd c.1 e
theorem nodup_idx{l:List Hd}(h:(l.map Hd.id).Nodup){i j:Nat}(a:i<l.length)(b:j<l.length)(e:(l.getD i default).id=(l.getD j default).id):i=j:=by
 refine om h (x:=(l.getD i default).id) (by simp [a]) ?_
 rw [e];simp [b]
theorem fW.lower{l:List Hd}{K:Nat->Option Int}(h:fW l K){i:Nat}(c:i<l.length)(k:Int):fW (l.set i ⟨(l.getD i default).id,k⟩) (ct K (l.getD i default).id (some k)):=by
 have g:(l.set i ⟨(l.getD i default).id,k⟩).map Hd.id=l.map Hd.id:=by
  rw [List.map_set]
  refine Xv fun j=>?_
  rw [Xn]
  split
  . rename_i e;subst e;simp [c]
  . rfl
 refine⟨by rw [g];exact h.1,fun u x=>?_⟩
 unfold ct
 by_cases e:u=(l.getD i default).id
 . rw [if_pos e]
   constructor
   . intro m;cases m;subst e;exact List.mem_iff_getElem?.2 ⟨i,by simp [c]⟩
   . intro b
     obtain⟨j,a⟩:=List.mem_iff_getElem?.1 b
     rw [Xn]at a
     split at a
     . cases a;rfl
     . rename_i d
       have f:=(List.getElem?_eq_some_iff.1 a).1
       exact absurd (nodup_idx h.1 c f (by rw [<-e];simp [zN,a])) d
 . rw [if_neg e,h.2]
   constructor
   . intro b
     obtain⟨j,a⟩:=List.mem_iff_getElem?.1 b
     refine List.mem_iff_getElem?.2 ⟨j,?_⟩
     rw [Xn,if_neg ?_]
     . exact a
     . rintro rfl
       apply e
       simp [zN,a]
   . intro b
     obtain⟨j,a⟩:=List.mem_iff_getElem?.1 b
     rw [Xn]at a
     split at a
     . cases a;exact absurd rfl e
     . exact Xr a
theorem fW.pop{l:List Hd}{K:Nat->Option Int}(h:fW l K)(g:0<l.length):fW ((sw l 0 (l.length-1)).take (l.length-1)) (ct K (l.getD 0 default).id none):=by
 have p:=rG l (i:=0) (k:=l.length-1) g (by omega)
 have n:=h.perm p
 have e:sw l 0 (l.length-1)=(sw l 0 (l.length-1)).take (l.length-1)++[l.getD 0 default]:=by
  refine Xv fun j=>?_
  have o:=ia l (i:=0) (k:=l.length-1) g (by omega) (l.length-1)
  rw [if_pos rfl]at o
  have a:=fU l 0 (l.length-1)
  by_cases q:j<l.length-1
  . rw [Xh (by simp [a];omega),XM q]
  . by_cases c:j=l.length-1
    . subst c
      rw [Xj (by simp [a])]
      rw [<-o]
      simp [a,zN,show l.length-1<l.length by omega]
    . rw [XG (by omega),XG (by simp [a];omega)]
 generalize(sw l 0 (l.length-1)).take (l.length-1)=m at*
 generalize l.getD 0 default=x at*
 rw [e]at n
 obtain⟨d,r⟩:=n
 rw [List.map_append,XJ]at d
 refine⟨d.1,fun v k=>?_⟩
 unfold ct
 by_cases b:v=x.id
 . rw [if_pos b]
   constructor
   . intro h;cases h
   . intro s
     exact absurd b (d.2.2 v (List.mem_map_of_mem (f:=Hd.id) s) x.id (by simp))
 . rw [if_neg b,r,XO]
   constructor
   . rintro(h|h)
     . exact h
     . simp at h;exact absurd (by rw [<-h]) b
   . exact .inl
theorem fW.at{l:List Hd}{K:Nat->Option Int}(h:fW l K){i:Nat}(a:i<l.length):K (l.getD i default).id=some (l.getD i default).key:=
 (h.2 _ _).2 (List.mem_iff_getElem?.2 ⟨i,by simp [a]⟩)
theorem fW.idx{l:List Hd}{K:Nat->Option Int}(h:fW l K){v:Nat}{k:Int}(b:K v=some k): ∃i,i<l.length/\l.getD i default=⟨v,k⟩:=by
 obtain⟨i,a⟩:=List.mem_iff_getElem?.1 ((h.2 v k).1 b)
 exact⟨i,(List.getElem?_eq_some_iff.1 a).1,by simp [zN,a]⟩
theorem fW.nil{K:Nat->Option Int}(h:fW [] K)(v:Nat):K v=none:=by
 cases a:K v with
 |none=>rfl
 |some k=>have:=(h.2 v k).1 a;cases this
theorem cont_nil:fW [] (fun _=>none):=⟨.nil,fun v k=>by constructor<;>intro h<;>cases h⟩
end Go.Ab

end
section
namespace Go.Ab
def FAR:Nat:=72057594037927936
def bT:Nat:=2147483647
theorem jm:FAR=72057594037927936:=rfl
theorem j9:bT=2147483647:=rfl
inductive Wk(B:List Arc)(s:Nat):Nat->Nat->Prop where
 |nil:Wk B s s 0
 |snoc {w:Nat} {a:Arc}:a∈B->Wk B s a.s w->Wk B s a.t (w+a.w)
theorem Wk.snoc'{B:List Arc}{s u v w x:Nat}(h:Wk B s u w){a:Arc}(b:a∈B)(c:a.s=u)(d:a.t=v)(e:x=w+a.w):Wk B s v x:=by
 subst c d e;exact .snoc b h
def IsD(B:List Arc)(s v x:Nat):Prop:=(x<FAR/\Wk B s v x/\ ∀w,Wk B s v w->x<=w)\/(x=FAR/\ ∀w,¬Wk B s v w)
theorem IsD.uniq{B:List Arc}{s v x y:Nat}(h:IsD B s v x)(k:IsD B s v y):x=y:=by
 rcases h with⟨a,b,c⟩|⟨a,b⟩<;>rcases k with⟨d,e,f⟩|⟨d,e⟩
 . have:=c _ e;have:=f _ b;omega
 . exact absurd b (e _)
 . exact absurd e (b _)
 . omega
theorem IsD.le{B:List Arc}{s v x:Nat}(h:IsD B s v x):x<=FAR:=by
 rcases h with⟨a,_,_⟩|⟨a,_⟩<;>omega
theorem IsD.arc{B:List Arc}{s x y:Nat}{a:Arc}(c:a∈B)(f:IsD B s a.s x)(d:IsD B s a.t y):y<=x+a.w:=by
 rcases f with⟨g,b,j⟩|⟨g,b⟩
 . rcases d with⟨h,e,i⟩|⟨h,e⟩
   . exact i _ (.snoc c b)
   . exact absurd (.snoc c b) (e _)
 . have:=d.le;omega
theorem oa: ∀(N:Nat) (l:List Nat),l.Nodup->(∀x∈l,x<N)->l.length<=N
 | 0,l,_,h=>by
   cases l with
   |nil=>simp
   |cons x l=>have:=h x (by simp);omega
 | N+1,l,b,h=>by
   have f:=oa N (l.erase N) (b.erase N) (fun x c=>by
    have d:=h x (List.mem_of_mem_erase c)
    have g:x≠N:=fun e=>by subst e;exact(List.Nodup.not_mem_erase b) c
    omega)
   have d:=List.length_erase (a:=N) (l:=l)
   split at d<;>omega

section
variable{B:List Arc}{s N:Nat}{O:List Nat}{D:Nat->Nat}{K:Nat->Option Int}{ex:Arc->Prop}
structure Dj(B:List Arc)(s N:Nat)(O:List Nat)(D:Nat->Nat)(K:Nat->Option Int)(ex:Arc->Prop):Prop where
 i1: ∀v,v∈O->K v=none
 i2: ∀v∈O,Wk B s v (D v)/\(∀w,Wk B s v w->D v<=w)/\D v<=O.length*bT
 i2f: ∀v,v∉O->D v=FAR
 i3: ∀v k,K v=some k->v<N/\ ∃n:Nat,k=n/\Wk B s v n/\n<=O.length*bT
 i4: ∀a∈B,a.s∈O-> ¬ex a->a.t∈O\/ ∃k:Int,K a.t=some k/\k<=D a.s+a.w
 i5:s∈O\/K s=some 0
 nd:O.Nodup
 lt: ∀v∈O,v<N
theorem Dj.len(d:Dj B s N O D K ex):O.length<=N:=oa N O d.nd d.lt
theorem dj_init(b:s<N):Dj B s N [] (fun _=>FAR) (ct (fun _=>none) s (some 0)) (fun _=>False):=by
 refine⟨fun v h=>(by cases h),fun v h=>(by cases h),fun v _=>rfl,fun v k h=>?_,fun a _ h=>(by cases h),.inr (by simp [ct]),.nil,fun v h=>(by cases h)⟩
 unfold ct at h
 split at h
 . rename_i e;cases h;subst e;exact⟨b,0,rfl,.nil,by simp⟩
 . cases h
theorem Dj.front(d:Dj B s N O D K (fun _=>False)){x w:Nat}(h:Wk B s x w):x∈O\/ ∃y k,K y=some k/\k<=(w:Int):=by
 induction h with
 |nil=>exact d.i5.imp (fun h=>h) (fun h=>⟨_,_,h,by omega⟩)
 | @snoc w a e f b=>
   rcases b with b|⟨y,k,c,g⟩
   . rcases d.i4 a e b (fun h=>h)with h|⟨k,c,g⟩
     . exact .inl h
     . have:=(d.i2 _ b).2.1 _ f
       exact .inr ⟨_,k,c,by omega⟩
   . exact .inr ⟨y,k,c,by omega⟩
theorem Dj.pop(d:Dj B s N O D K (fun _=>False)){v:Nat}{n:Nat}(q:K v=some (n:Int))(A: ∀u k,K u=some k->(n:Int)<=k):
 Dj B s N (O++[v]) (fun u=>if u=v then n else D u) (ct K v none) (fun a=>a.s=v)/\v∉O/\v<N/\n<=O.length*bT:=by
 have g:v∉O:=fun h=>by have:=d.i1 v h;rw [q]at this;cases this
 obtain⟨i,C,e,E,l⟩:=d.i3 v _ q
 have e:n=C:=by omega
 subst e
 have r:(O++[v]).length*bT=O.length*bT+bT:=by rw [Xp,XR,Nat.succ_mul]
 refine⟨⟨fun u f=>?_,fun u f=>?_,fun u f=>?_,fun u k f=>?_,fun a o t x=>?_,?_,?_,fun u f=>?_⟩,g,i,l⟩
 . unfold ct
   by_cases e:u=v
   . rw [if_pos e]
   . rw [if_neg e];simp [e]at f;exact d.i1 u f
 . rw [r]
   by_cases e:u=v
   . subst e
     simp only [if_true]
     refine⟨E,fun w h=>?_,by omega⟩
     rcases d.front h with j|⟨y,k,j,z⟩
     . exact absurd j g
     . have:=A y k j;omega
   . simp only [e,if_false]
     simp [e]at f
     obtain⟨a,b,c⟩:=d.i2 u f
     exact⟨a,b,by omega⟩
 . simp at f
   simp only [f.2,if_false]
   exact d.i2f u f.1
 . unfold ct at f
   split at f
   . cases f
   . obtain⟨a,m,b,c,e⟩:=d.i3 u k f
     exact⟨a,m,b,c,by rw [r];omega⟩
 . simp [x]at t
   have p: ¬a.s=v:=x
   simp only [p,if_false]
   rcases d.i4 a o t (fun h=>h)with h|⟨k,j,z⟩
   . exact .inl (by simp [h])
   . by_cases e:a.t=v
     . exact .inl (by simp [e])
     . exact .inr ⟨k,by unfold ct;rw [if_neg e];exact j,z⟩
 . rcases d.i5 with h|h
   . exact .inl (by simp [h])
   . by_cases e:s=v
     . exact .inl (by simp [e])
     . exact .inr (by unfold ct;rw [if_neg e];exact h)
 . rw [XJ]
   exact⟨d.nd,by simp,fun a o b l e=>g (by simp at l;subst l;subst e;exact o)⟩
 . rcases List.mem_append.1 f with h|h
   . exact d.lt u h
   . simp at h;subst h;exact i
def iq(O:List Nat)(K:Nat->Option Int)(u:Nat)(x:Int):Nat->Option Int:=if u∈O then K else match K u with
 |some k=>if k<=x then K else ct K u (some x)
 |none=>ct K u (some x)
theorem Dj.relaxed (d:Dj B s N O D K ex) {ex':Arc->Prop} {a:Arc} (t:a∈B) (u:a.s∈O) (w:a.t<N) (m:D a.s+a.w<=O.length*bT) (x: ∀b∈B,¬ex' b-> ¬ex b\/b=a):
 Dj B s N O D (iq O K a.t ((D a.s+a.w:Nat):Int)) ex':=by
 have f: ∀i,(∀v,v∈O->i v=K v)->(∀v k,i v=some k->K v=some k\/(v=a.t/\k=((D a.s+a.w:Nat):Int)))->(∀v k,K v=some k-> ∃j,i v=some j/\j<=k)->(a.t∈O\/ ∃k:Int,i a.t=some k/\k<=D a.s+a.w)->Dj B s N O D i ex':=by
  intro i y q r z
  refine⟨fun v c=>by rw [y v c];exact d.i1 v c,d.i2,d.i2f,fun v k g=>?_,fun b m n o=>?_,?_,d.nd,d.lt⟩
  . rcases q v k g with h|⟨rfl,rfl⟩
    . exact d.i3 v k h
    . exact⟨w,_,rfl,.snoc t (d.i2 _ u).1,m⟩
  . rcases x b m o with h|rfl
    . rcases d.i4 b m n h with h|⟨k,A,E⟩
      . exact .inl h
      . obtain⟨j,l,C⟩:=r _ _ A
        exact .inr ⟨j,l,by omega⟩
    . exact z
  . rcases d.i5 with h|h
    . exact .inl h
    . obtain⟨j,l,C⟩:=r _ _ h
      rcases q _ _ l with p|⟨p,F⟩
      . rw [h]at p;exact .inr (by rw [l,p])
      . exact .inr (by rw [l];congr 1;omega)
 unfold iq
 by_cases h:a.t∈O
 . rw [if_pos h];exact f K (fun _ _=>rfl) (fun _ _ h=>.inl h) (fun v k h=>⟨k,h,by omega⟩) (.inl h)
 . rw [if_neg h]
   have upd:(∀k,K a.t=some k->((D a.s+a.w:Nat):Int)<=k)->Dj B s N O D (ct K a.t (some ((D a.s+a.w:Nat):Int))) ex':=fun g=>by
    refine f _ (fun v c=>?_) (fun v k c=>?_) (fun v k c=>?_) (.inr ⟨((D a.s+a.w:Nat):Int),by unfold ct;rw [if_pos rfl],by omega⟩)
    . unfold ct;rw [if_neg (fun e=>h (by subst e;exact c))]
    . unfold ct at c
      split at c
      . rename_i e;cases c;exact .inr ⟨e,rfl⟩
      . exact .inl c
    . unfold ct
      by_cases e:v=a.t
      . rw [if_pos e];subst e;exact⟨_,rfl,g k c⟩
      . rw [if_neg e];exact⟨k,c,by omega⟩
   cases g:K a.t with
   |none=>simp only [];exact upd (fun k e=>by rw [g]at e;cases e)
   | some k=>
     simp only []
     split
     . rename_i hle
       exact f K (fun _ _=>rfl) (fun _ _ h=>.inl h) (fun v k h=>⟨k,h,by omega⟩) (.inr ⟨k,g,by omega⟩)
     . rename_i hle
       exact upd (fun j e=>by rw [g]at e;cases e;omega)
theorem Dj.done(d:Dj B s N O D K (fun _=>False))(f: ∀v,K v=none)(g:N<=12)(v:Nat):IsD B s v (D v):=by
 have j:=Nat.mul_le_mul_right bT (Xl d.len g)
 have:=jm
 have:=j9
 by_cases h:v∈O
 . obtain⟨a,b,c⟩:=d.i2 v h
   exact .inl ⟨by omega,a,b⟩
 . refine .inr ⟨d.i2f v h,fun w i=>?_⟩
   rcases d.front i with e|⟨y,k,e,_⟩
   . exact h e
   . rw [f]at e;cases e
end
theorem jV{A:List Arc}{f:Arc->Nat}{j v i:Nat}:i∈outs A f j v↔i<j/\f (A.getD i default)=v:=by
 unfold outs
 rw [List.mem_filter,XP,decide_eq_true_eq]
def cC(a:Arc):Arc:=⟨a.t,a.s,a.w⟩

structure Ls(B:List Arc)(s N:Nat)(l:Nat->Nat):Prop where
 le: ∀v,l v<=FAR
 wk: ∀v,l v=FAR\/Wk B s v (l v)
 s0:l s=0
def jF(l:Nat->Nat)(v x:Nat):Nat->Nat:=fun u=>if u=v then x else l u
theorem Ls.step{B:List Arc}{s N:Nat}{l:Nat->Nat}(h:Ls B s N l){a:Arc}(b:a∈B)(f:l a.s<FAR)(c:l a.s+a.w<l a.t):Ls B s N (jF l a.t (l a.s+a.w)):=by
 have d:=(h.wk a.s).resolve_left (by omega)
 refine⟨fun v=>?_,fun v=>?_,?_⟩
 . unfold jF;split
   . have:=h.le a.t;omega
   . exact h.le v
 . unfold jF;split
   . rename_i e;subst e;exact .inr (.snoc b d)
   . exact h.wk v
 . unfold jF;split
   . rename_i e;rw [<-e,h.s0]at c;omega
   . exact h.s0
end Go.Ab

end

/- Nets, cells, flags: what the functions do (part 1). -/
import Derived.Test.YtdcndollikinnaaGreatDoorEnv
open Go.Ab.Tryz
open Go.Ab.Tryz renaming abEnv->zM
open List renaming range->zO,take->Xb,drop->Xc,getD_eq_getElem?_getD->Xd,mem_of_getElem?->Xh,getElem?_append_right->Xj,getElem?_append_left->Xk,flatMap_append->Xo,getElem?_eq_getElem->Xp,getElem?_map->Xq,take_succ_cons->Xr,length_append->Xs,ext_getElem?->Xv,nodup_append->Xw,drop_zero->Xx,take_zero->Xy,getElem_mem->XA,length_flatMap->XC,map_const'->XD,map_cons->XG,append_nil->XH,mem_cons->XI,getElem?_set->XJ,range_succ->XL,length_set->XM,nodup_cons->XN,mem_range->XO,length_filter_le->XP,length_singleton->XR,flatMap_eq_foldl->XS,getElem?_eq_none->XT,getElem?_append->XU,drop_succ_cons->XV
open And renaming intro->Xa
open Nat renaming lt_of_succ_le->Xe,zero_add->Xf,mul_one->Xg,zero_mul->Xi,le_trans->Xm,one_mul->Xn,ble_eq_true_of_le->Xz,le_refl->XF,eq_of_beq_eq_true->XQ,zero_le->XW
open Int renaming cast_ofNat_Int->Xl,tmod_eq_emod_of_nonneg->XB,toNat_natCast->XE
open Bool renaming and_true->Xt
open Prod renaming fst->Xu
open Option renaming getD_some->XK
set_option maxHeartbeats 4000000
set_option linter.defProp false
set_option linter.unusedVariables false
set_option linter.unusedSimpArgs false
section
namespace Go.Ab
theorem Si{h:Hp}(a:h.t.Sized h.n):St NoM h h [] []:=St.init a
theorem aj{a b:Prop}(x:a)(y:b):a/\b:=⟨x,y⟩
set_option linter.defProp false in
def LC:=Xa @List.set_cons_zero.{0}<|Xa @List.set_cons_succ.{0}<|Xa @List.cons_append.{0}<|Xa @List.nil_append.{0}<|Xa @List.append_nil.{0}<|Xa @List.length_cons.{0}<|Xa @List.length_nil.{0}<|@Nat.add_zero
theorem lbt{a b:Nat}(h:Nat.ble a b=true):a<=b:=Nat.le_of_ble_eq_true h
theorem ono:(1:Nat)≠0:=Nat.one_ne_zero
set_option linter.defProp false in
def LB:=Xa @if_true.{1}<|Xa @if_false.{1}<|Xa @eq_self.{1}<|Xa @List.map_cons.{0,0}<|Xa @List.map_nil.{0,0}<|Xa @List.append_nil.{0}<|Xa @List.nil_append.{0}<|Xa @List.cons_append.{0}<|Xa @List.getElem?_cons_zero.{0}<|Xa @List.getElem?_cons_succ.{0}<|Xa @List.set_cons_zero.{0}<|Xa @List.set_cons_succ.{0}<|Xa @List.length_cons.{0}<|Xa @List.length_nil.{0}<|Xa @Nat.add_zero<|Xa @Nat.zero_add<|Xa @Nat.mul_one<|Xa @Nat.zero_mul<|Xa @cond_true.{1}<|Xa @cond_false.{1}<|Xa @decide_true<|Xa @decide_false<|Xa @Bool.and_true<|Xa @Bool.and_false<|Xa @Bool.not_false<|Xa @Bool.not_true<|Xa @true_and<|Xa @and_true<|Xa @Option.isSome_some.{0}<|@List.map_toArray.{0,0}
open Go.Proofs
namespace Tryz
abbrev TQ0(i:TypeId)(A:Bool)(S:Nat)(Z:List Value):Prop:=zM.agg i=some A/\zM.sz i=some S/\zM.zero i=some Z/\d9 zM i=some false
theorem kTQ0{i:TypeId}{A:Bool}{S:Nat}{Z:List Value}(h:(zM.agg i,zM.sz i,zM.zero i,d9 zM i)=(some A,some S,some Z,some false)):TQ0 i A S Z:=by simpa only [Prod.mk.injEq]using h
abbrev TQ1(i:TypeId)(U:TypeDesc)(A:Bool)(S:Nat)(Z:List Value):Prop:=zM.und i=some U/\zM.agg i=some A/\zM.sz i=some S/\zM.zero i=some Z/\kJ zM i=true
theorem kTQ1{i:TypeId}{U:TypeDesc}{A:Bool}{S:Nat}{Z:List Value}(h:(zM.und i,zM.agg i,zM.sz i,zM.zero i,kJ zM i)=(some U,some A,some S,some Z,true)):TQ1 i U A S Z:=by simpa only [Prod.mk.injEq]using h
abbrev TQ2(i:TypeId)(U:TypeDesc)(A:Bool)(S:Nat)(Z:List Value):Prop:=zM.und i=some U/\zM.agg i=some A/\zM.sz i=some S/\zM.zero i=some Z/\d9 zM i=some false
theorem kTQ2{i:TypeId}{U:TypeDesc}{A:Bool}{S:Nat}{Z:List Value}(h:(zM.und i,zM.agg i,zM.sz i,zM.zero i,d9 zM i)=(some U,some A,some S,some Z,some false)):TQ2 i U A S Z:=by simpa only [Prod.mk.injEq]using h
abbrev TQ3(i:TypeId)(A:Bool)(S:Nat)(Z:List Value)(P:List (Nat×Nat)):Prop:=zM.agg i=some A/\zM.sz i=some S/\zM.zero i=some Z/\kJ zM i=true/\d9 zM i=some false/\placesOf zM i=some P
theorem kTQ3{i:TypeId}{A:Bool}{S:Nat}{Z:List Value}{P:List (Nat×Nat)}(h:(zM.agg i,zM.sz i,zM.zero i,kJ zM i,d9 zM i,placesOf zM i)=(some A,some S,some Z,true,some false,some P)):TQ3 i A S Z P:=by simpa only [Prod.mk.injEq]using h
abbrev TQ4(i:TypeId)(U:TypeDesc)(A:Bool)(S:Nat)(Z:List Value):Prop:=zM.und i=some U/\zM.agg i=some A/\zM.sz i=some S/\zM.zero i=some Z/\pE zM i=true/\kJ zM i=true/\d9 zM i=some false
theorem kTQ4{i:TypeId}{U:TypeDesc}{A:Bool}{S:Nat}{Z:List Value}(h:(zM.und i,zM.agg i,zM.sz i,zM.zero i,pE zM i,kJ zM i,d9 zM i)=(some U,some A,some S,some Z,true,true,some false)):TQ4 i U A S Z:=by simpa only [Prod.mk.injEq]using h
abbrev TQ5(i:TypeId)(A:Bool)(S:Nat)(Z:List Value):Prop:=zM.agg i=some A/\zM.sz i=some S/\zM.zero i=some Z/\isIface zM i=true/\d9 zM i=some false
theorem kTQ5{i:TypeId}{A:Bool}{S:Nat}{Z:List Value}(h:(zM.agg i,zM.sz i,zM.zero i,isIface zM i,d9 zM i)=(some A,some S,some Z,true,some false)):TQ5 i A S Z:=by simpa only [Prod.mk.injEq]using h
abbrev TQ6(i:TypeId)(U:TypeDesc)(A:Bool)(S:Nat)(Z:List Value):Prop:=zM.und i=some U/\zM.agg i=some A/\zM.sz i=some S/\zM.zero i=some Z/\isSl zM i=true/\d9 zM i=some false
theorem kTQ6{i:TypeId}{U:TypeDesc}{A:Bool}{S:Nat}{Z:List Value}(h:(zM.und i,zM.agg i,zM.sz i,zM.zero i,isSl zM i,d9 zM i)=(some U,some A,some S,some Z,true,some false)):TQ6 i U A S Z:=by simpa only [Prod.mk.injEq]using h
abbrev TQ7(i:TypeId)(A:Bool)(S:Nat)(Z:List Value):Prop:=zM.agg i=some A/\zM.sz i=some S/\zM.zero i=some Z/\kJ zM i=true/\d9 zM i=some false
theorem kTQ7{i:TypeId}{A:Bool}{S:Nat}{Z:List Value}(h:(zM.agg i,zM.sz i,zM.zero i,kJ zM i,d9 zM i)=(some A,some S,some Z,true,some false)):TQ7 i A S Z:=by simpa only [Prod.mk.injEq]using h
abbrev TR0(i:TypeId)(f o1 o2 o3:Nat):Prop:=(∀(b o:Nat) (s:Option Nat),aE zM i (.pointer (some ⟨b,o,s⟩)) 0=some (.pointer (some ⟨b,o+f,none⟩))/\aE zM i (.pointer (some ⟨b,o,s⟩)) 1=some (.pointer (some ⟨b,o+o1,none⟩))/\aE zM i (.pointer (some ⟨b,o,s⟩)) 2=some (.pointer (some ⟨b,o+o2,none⟩))/\aE zM i (.pointer (some ⟨b,o,s⟩)) 3=some (.pointer (some ⟨b,o+o3,none⟩)))/\ ∀a c d e:Value,bj zM i (.agg ⟨[a,c,d,e]⟩) 0=some a/\bj zM i (.agg ⟨[a,c,d,e]⟩) 1=some c/\bj zM i (.agg ⟨[a,c,d,e]⟩) 2=some d/\bj zM i (.agg ⟨[a,c,d,e]⟩) 3=some e
abbrev TR1(i:TypeId)(d o1:Nat):Prop:=(∀(b o:Nat) (s:Option Nat),aE zM i (.pointer (some ⟨b,o,s⟩)) 0=some (.pointer (some ⟨b,o+d,none⟩))/\aE zM i (.pointer (some ⟨b,o,s⟩)) 1=some (.pointer (some ⟨b,o+o1,none⟩)))/\ ∀a c:Value,bj zM i (.agg ⟨[a,c]⟩) 0=some a/\bj zM i (.agg ⟨[a,c]⟩) 1=some c
abbrev TR2(i:TypeId)(c:Nat):Prop:=(∀(b o:Nat) (s:Option Nat),aE zM i (.pointer (some ⟨b,o,s⟩)) 0=some (.pointer (some ⟨b,o+c,none⟩)))/\ ∀a:Value,bj zM i (.agg ⟨[a]⟩) 0=some a
abbrev TR3(i:TypeId)(k o1 o2 o3 l m n p:Nat):Prop:=(∀(b o:Nat) (s:Option Nat),aE zM i (.pointer (some ⟨b,o,s⟩)) 0=some (.pointer (some ⟨b,o+k,none⟩))/\aE zM i (.pointer (some ⟨b,o,s⟩)) 1=some (.pointer (some ⟨b,o+o1,none⟩))/\aE zM i (.pointer (some ⟨b,o,s⟩)) 2=some (.pointer (some ⟨b,o+o2,none⟩))/\aE zM i (.pointer (some ⟨b,o,s⟩)) 3=some (.pointer (some ⟨b,o+o3,none⟩))/\aE zM i (.pointer (some ⟨b,o,s⟩)) 4=some (.pointer (some ⟨b,o+l,none⟩))/\aE zM i (.pointer (some ⟨b,o,s⟩)) 5=some (.pointer (some ⟨b,o+m,none⟩))/\aE zM i (.pointer (some ⟨b,o,s⟩)) 6=some (.pointer (some ⟨b,o+n,none⟩))/\aE zM i (.pointer (some ⟨b,o,s⟩)) 7=some (.pointer (some ⟨b,o+p,none⟩)))/\ ∀a c d e f g h j:Value,bj zM i (.agg ⟨[a,c,d,e,f,g,h,j]⟩) 0=some a/\bj zM i (.agg ⟨[a,c,d,e,f,g,h,j]⟩) 1=some c/\bj zM i (.agg ⟨[a,c,d,e,f,g,h,j]⟩) 2=some d/\bj zM i (.agg ⟨[a,c,d,e,f,g,h,j]⟩) 3=some e/\bj zM i (.agg ⟨[a,c,d,e,f,g,h,j]⟩) 4=some f/\bj zM i (.agg ⟨[a,c,d,e,f,g,h,j]⟩) 5=some g/\bj zM i (.agg ⟨[a,c,d,e,f,g,h,j]⟩) 6=some h/\bj zM i (.agg ⟨[a,c,d,e,f,g,h,j]⟩) 7=some j
abbrev TR4(i:TypeId)(h o1 o2:Nat):Prop:=(∀(b o:Nat) (s:Option Nat),aE zM i (.pointer (some ⟨b,o,s⟩)) 0=some (.pointer (some ⟨b,o+h,none⟩))/\aE zM i (.pointer (some ⟨b,o,s⟩)) 1=some (.pointer (some ⟨b,o+o1,none⟩))/\aE zM i (.pointer (some ⟨b,o,s⟩)) 2=some (.pointer (some ⟨b,o+o2,none⟩)))/\ ∀a c d e f g:Value,bj zM i (.agg ⟨[a,c,d,e,f,g]⟩) 0=some (.agg ⟨[a,c,d,e]⟩)/\bj zM i (.agg ⟨[a,c,d,e,f,g]⟩) 1=some f/\bj zM i (.agg ⟨[a,c,d,e,f,g]⟩) 2=some g
abbrev TR5(i:TypeId)(p o1 o2 o3 q r t u v w n:Nat):Prop:=(∀(b o:Nat) (s:Option Nat),aE zM i (.pointer (some ⟨b,o,s⟩)) 0=some (.pointer (some ⟨b,o+p,none⟩))/\aE zM i (.pointer (some ⟨b,o,s⟩)) 1=some (.pointer (some ⟨b,o+o1,none⟩))/\aE zM i (.pointer (some ⟨b,o,s⟩)) 2=some (.pointer (some ⟨b,o+o2,none⟩))/\aE zM i (.pointer (some ⟨b,o,s⟩)) 3=some (.pointer (some ⟨b,o+o3,none⟩))/\aE zM i (.pointer (some ⟨b,o,s⟩)) 4=some (.pointer (some ⟨b,o+q,none⟩))/\aE zM i (.pointer (some ⟨b,o,s⟩)) 5=some (.pointer (some ⟨b,o+r,none⟩))/\aE zM i (.pointer (some ⟨b,o,s⟩)) 6=some (.pointer (some ⟨b,o+t,none⟩))/\aE zM i (.pointer (some ⟨b,o,s⟩)) 7=some (.pointer (some ⟨b,o+u,none⟩))/\aE zM i (.pointer (some ⟨b,o,s⟩)) 8=some (.pointer (some ⟨b,o+v,none⟩))/\aE zM i (.pointer (some ⟨b,o,s⟩)) 9=some (.pointer (some ⟨b,o+w,none⟩))/\aE zM i (.pointer (some ⟨b,o,s⟩)) 10=some (.pointer (some ⟨b,o+n,none⟩)))/\ ∀c d e f g h j k l m a:Value,bj zM i (.agg ⟨[c,d,e,f,g,h,j,k,l,m,a]⟩) 0=some c/\bj zM i (.agg ⟨[c,d,e,f,g,h,j,k,l,m,a]⟩) 1=some d/\bj zM i (.agg ⟨[c,d,e,f,g,h,j,k,l,m,a]⟩) 2=some e/\bj zM i (.agg ⟨[c,d,e,f,g,h,j,k,l,m,a]⟩) 3=some f/\bj zM i (.agg ⟨[c,d,e,f,g,h,j,k,l,m,a]⟩) 4=some g/\bj zM i (.agg ⟨[c,d,e,f,g,h,j,k,l,m,a]⟩) 5=some h/\bj zM i (.agg ⟨[c,d,e,f,g,h,j,k,l,m,a]⟩) 6=some j/\bj zM i (.agg ⟨[c,d,e,f,g,h,j,k,l,m,a]⟩) 7=some k/\bj zM i (.agg ⟨[c,d,e,f,g,h,j,k,l,m,a]⟩) 8=some l/\bj zM i (.agg ⟨[c,d,e,f,g,h,j,k,l,m,a]⟩) 9=some m/\bj zM i (.agg ⟨[c,d,e,f,g,h,j,k,l,m,a]⟩) 10=some a
abbrev TR6(i:TypeId)(e o1 o2:Nat):Prop:=(∀(b o:Nat) (s:Option Nat),aE zM i (.pointer (some ⟨b,o,s⟩)) 0=some (.pointer (some ⟨b,o+e,none⟩))/\aE zM i (.pointer (some ⟨b,o,s⟩)) 1=some (.pointer (some ⟨b,o+o1,none⟩))/\aE zM i (.pointer (some ⟨b,o,s⟩)) 2=some (.pointer (some ⟨b,o+o2,none⟩)))/\ ∀a c d:Value,bj zM i (.agg ⟨[a,c,d]⟩) 0=some a/\bj zM i (.agg ⟨[a,c,d]⟩) 1=some c/\bj zM i (.agg ⟨[a,c,d]⟩) 2=some d
abbrev TR7(i:TypeId)(k o1 o2 o3:Nat):Prop:=(∀(b o:Nat) (s:Option Nat),aE zM i (.pointer (some ⟨b,o,s⟩)) 0=some (.pointer (some ⟨b,o+k,none⟩))/\aE zM i (.pointer (some ⟨b,o,s⟩)) 1=some (.pointer (some ⟨b,o+o1,none⟩))/\aE zM i (.pointer (some ⟨b,o,s⟩)) 2=some (.pointer (some ⟨b,o+o2,none⟩))/\aE zM i (.pointer (some ⟨b,o,s⟩)) 3=some (.pointer (some ⟨b,o+o3,none⟩)))/\ ∀a c d e f g h j:Value,bj zM i (.agg ⟨[a,c,d,e,f,g,h,j]⟩) 0=some (.agg ⟨[a,c]⟩)/\bj zM i (.agg ⟨[a,c,d,e,f,g,h,j]⟩) 1=some d/\bj zM i (.agg ⟨[a,c,d,e,f,g,h,j]⟩) 2=some e/\bj zM i (.agg ⟨[a,c,d,e,f,g,h,j]⟩) 3=some (.agg ⟨[f,g,h,j]⟩)
abbrev TR8(i:TypeId)(e o1:Nat):Prop:=(∀(b o:Nat) (s:Option Nat),aE zM i (.pointer (some ⟨b,o,s⟩)) 0=some (.pointer (some ⟨b,o+e,none⟩))/\aE zM i (.pointer (some ⟨b,o,s⟩)) 1=some (.pointer (some ⟨b,o+o1,none⟩)))/\ ∀a c d:Value,bj zM i (.agg ⟨[a,c,d]⟩) 0=some (.agg ⟨[a,c]⟩)/\bj zM i (.agg ⟨[a,c,d]⟩) 1=some d
abbrev TR9(i:TypeId)(h o1 o2 o3 j k:Nat):Prop:=(∀(b o:Nat) (s:Option Nat),aE zM i (.pointer (some ⟨b,o,s⟩)) 0=some (.pointer (some ⟨b,o+h,none⟩))/\aE zM i (.pointer (some ⟨b,o,s⟩)) 1=some (.pointer (some ⟨b,o+o1,none⟩))/\aE zM i (.pointer (some ⟨b,o,s⟩)) 2=some (.pointer (some ⟨b,o+o2,none⟩))/\aE zM i (.pointer (some ⟨b,o,s⟩)) 3=some (.pointer (some ⟨b,o+o3,none⟩))/\aE zM i (.pointer (some ⟨b,o,s⟩)) 4=some (.pointer (some ⟨b,o+j,none⟩))/\aE zM i (.pointer (some ⟨b,o,s⟩)) 5=some (.pointer (some ⟨b,o+k,none⟩)))/\ ∀a c d e f g:Value,bj zM i (.agg ⟨[a,c,d,e,f,g]⟩) 0=some a/\bj zM i (.agg ⟨[a,c,d,e,f,g]⟩) 1=some c/\bj zM i (.agg ⟨[a,c,d,e,f,g]⟩) 2=some d/\bj zM i (.agg ⟨[a,c,d,e,f,g]⟩) 3=some e/\bj zM i (.agg ⟨[a,c,d,e,f,g]⟩) 4=some f/\bj zM i (.agg ⟨[a,c,d,e,f,g]⟩) 5=some g
abbrev TR10(i:TypeId)(g o1 o2:Nat):Prop:=(∀(b o:Nat) (s:Option Nat),aE zM i (.pointer (some ⟨b,o,s⟩)) 0=some (.pointer (some ⟨b,o+g,none⟩))/\aE zM i (.pointer (some ⟨b,o,s⟩)) 1=some (.pointer (some ⟨b,o+o1,none⟩))/\aE zM i (.pointer (some ⟨b,o,s⟩)) 2=some (.pointer (some ⟨b,o+o2,none⟩)))/\ ∀a c d e f:Value,bj zM i (.agg ⟨[a,c,d,e,f]⟩) 0=some a/\bj zM i (.agg ⟨[a,c,d,e,f]⟩) 1=some (.agg ⟨[c,d,e]⟩)/\bj zM i (.agg ⟨[a,c,d,e,f]⟩) 2=some f
theorem t1:TQ0 1 false 1 [.nilFunc]:=kTQ0 (by kernel_rfl)
theorem t2:TQ1 2 (.int .i64) false 1 [.int .i64 0]:=kTQ1 (by kernel_rfl)
theorem e2E:eK zM 2 8 1 [.int .i64 0]:=⟨⟨_,rfl,by kernel_rfl,by kernel_rfl⟩,t2.2.2.2.1,rfl⟩
theorem t3:TQ1 3 (.int .i64) false 1 [.int .i64 0]:=kTQ1 (by kernel_rfl)
theorem e3E:eK zM 3 8 1 [.int .i64 0]:=⟨⟨_,rfl,by kernel_rfl,by kernel_rfl⟩,t3.2.2.2.1,rfl⟩
theorem t4:TQ2 4 .bool false 1 [.bool false]:=kTQ2 (by kernel_rfl)
theorem e4E:eK zM 4 1 1 [.bool false]:=⟨⟨_,rfl,by kernel_rfl,by kernel_rfl⟩,t4.2.2.2.1,rfl⟩
theorem t5:TQ1 5 (.int .u8) false 1 [.int .u8 0]:=kTQ1 (by kernel_rfl)
theorem e5E:eK zM 5 1 1 [.int .u8 0]:=⟨⟨_,rfl,by kernel_rfl,by kernel_rfl⟩,t5.2.2.2.1,rfl⟩
theorem t6:TQ1 6 (.int .u8) false 1 [.int .u8 0]:=kTQ1 (by kernel_rfl)
theorem t7:TQ3 7 true 4 [.int .i64 0,.int .i64 0,.bool false,.int .u8 0] [(0,1),(1,1),(2,1),(3,1)]:=kTQ3 (by kernel_rfl)
theorem r7:TR0 7 0 1 2 3:=⟨fun _ _ _=>⟨rfl,rfl,rfl,rfl⟩,fun _ _ _ _=>⟨rfl,rfl,rfl,rfl⟩⟩
theorem t8:TQ3 8 true 4 [.int .i64 0,.int .i64 0,.bool false,.int .u8 0] [(0,1),(1,1),(2,1),(3,1)]:=kTQ3 (by kernel_rfl)
theorem r8:TR0 8 0 1 2 3:=⟨fun _ _ _=>⟨rfl,rfl,rfl,rfl⟩,fun _ _ _ _=>⟨rfl,rfl,rfl,rfl⟩⟩
theorem t9:TQ2 9 .string false 1 [.string ⟨#[]⟩]:=kTQ2 (by kernel_rfl)
theorem t10:TQ2 10 .string false 1 [.string ⟨#[]⟩]:=kTQ2 (by kernel_rfl)
theorem t11:TQ2 11 .string false 1 [.string ⟨#[]⟩]:=kTQ2 (by kernel_rfl)
theorem t12:TQ1 12 (.int .u64) false 1 [.int .u64 0]:=kTQ1 (by kernel_rfl)
theorem t13:TQ3 13 true 2 [.string ⟨#[]⟩,.int .u64 0] [(0,1),(1,1)]:=kTQ3 (by kernel_rfl)
theorem r13:TR1 13 0 1:=⟨fun _ _ _=>⟨rfl,rfl⟩,fun _ _=>⟨rfl,rfl⟩⟩
theorem t14:TQ3 14 true 2 [.string ⟨#[]⟩,.int .u64 0] [(0,1),(1,1)]:=kTQ3 (by kernel_rfl)
theorem r14:TR1 14 0 1:=⟨fun _ _ _=>⟨rfl,rfl⟩,fun _ _=>⟨rfl,rfl⟩⟩
theorem t15:TQ4 15 (.pointer 367) false 1 [.pointer none]:=kTQ4 (by kernel_rfl)
theorem t16:TQ4 16 (.pointer 370) false 1 [.pointer none]:=kTQ4 (by kernel_rfl)
theorem t17:TQ4 17 (.pointer 377) false 1 [.pointer none]:=kTQ4 (by kernel_rfl)
theorem t18:TQ3 18 true 1 [.pointer none] [(0,1)]:=kTQ3 (by kernel_rfl)
theorem r18:TR2 18 0:=⟨fun _ _ _=>rfl,fun _=>rfl⟩
theorem t19:TQ3 19 true 1 [.pointer none] [(0,1)]:=kTQ3 (by kernel_rfl)
theorem r19:TR2 19 0:=⟨fun _ _ _=>rfl,fun _=>rfl⟩
theorem t20:TQ5 20 false 1 [.nilIface]:=kTQ5 (by kernel_rfl)
theorem t21:TQ1 21 (.int .i32) false 1 [.int .i32 0]:=kTQ1 (by kernel_rfl)
theorem t22:TQ6 22 (.slice 5) false 1 [.slice none 0 0]:=kTQ6 (by kernel_rfl)
theorem t23:TQ6 23 (.slice 2) false 1 [.slice none 0 0]:=kTQ6 (by kernel_rfl)
theorem e23E:eK zM 23 24 1 [.slice none 0 0]:=⟨⟨_,rfl,by kernel_rfl,by kernel_rfl⟩,t23.2.2.2.1,rfl⟩
theorem t24:TQ1 24 (.int .i8) false 1 [.int .i8 0]:=kTQ1 (by kernel_rfl)
theorem t25:TQ3 25 true 8 [.slice none 0 0,.slice none 0 0,.slice none 0 0,.int .u8 0,.slice none 0 0,.int .u8 0,.int .u8 0,.int .i8 0] [(0,1),(1,1),(2,1),(3,1),(4,1),(5,1),(6,1),(7,1)]:=kTQ3 (by kernel_rfl)
theorem r25:TR3 25 0 1 2 3 4 5 6 7:=⟨fun _ _ _=>⟨rfl,rfl,rfl,rfl,rfl,rfl,rfl,rfl⟩,fun _ _ _ _ _ _ _ _=>⟨rfl,rfl,rfl,rfl,rfl,rfl,rfl,rfl⟩⟩
theorem t26:TQ3 26 true 8 [.slice none 0 0,.slice none 0 0,.slice none 0 0,.int .u8 0,.slice none 0 0,.int .u8 0,.int .u8 0,.int .i8 0] [(0,1),(1,1),(2,1),(3,1),(4,1),(5,1),(6,1),(7,1)]:=kTQ3 (by kernel_rfl)
theorem r26:TR3 26 0 1 2 3 4 5 6 7:=⟨fun _ _ _=>⟨rfl,rfl,rfl,rfl,rfl,rfl,rfl,rfl⟩,fun _ _ _ _ _ _ _ _=>⟨rfl,rfl,rfl,rfl,rfl,rfl,rfl,rfl⟩⟩
theorem t27:TQ0 27 false 1 [.nilFunc]:=kTQ0 (by kernel_rfl)
theorem t28:TQ4 28 (.pointer 36) false 1 [.pointer none]:=kTQ4 (by kernel_rfl)
theorem t31:TQ4 31 (.pointer 95) false 1 [.pointer none]:=kTQ4 (by kernel_rfl)
theorem t32:TQ4 32 (.pointer 170) false 1 [.pointer none]:=kTQ4 (by kernel_rfl)
theorem t33:TQ4 33 (.pointer 179) false 1 [.pointer none]:=kTQ4 (by kernel_rfl)
theorem t34:TQ4 34 (.pointer 254) false 1 [.pointer none]:=kTQ4 (by kernel_rfl)
theorem t36:TQ3 36 true 4 [.pointer none,.pointer none,.pointer none,.pointer none] [(0,1),(1,1),(2,1),(3,1)]:=kTQ3 (by kernel_rfl)
theorem r36:TR0 36 0 1 2 3:=⟨fun _ _ _=>⟨rfl,rfl,rfl,rfl⟩,fun _ _ _ _=>⟨rfl,rfl,rfl,rfl⟩⟩
theorem t39:TQ3 39 true 2 [.pointer none,.pointer none] [(0,1),(1,1)]:=kTQ3 (by kernel_rfl)
theorem r39:TR1 39 0 1:=⟨fun _ _ _=>⟨rfl,rfl⟩,fun _ _=>⟨rfl,rfl⟩⟩
theorem t40:TQ1 40 (.int .i64) false 1 [.int .i64 0]:=kTQ1 (by kernel_rfl)
theorem t41:TQ6 41 (.slice 3) false 1 [.slice none 0 0]:=kTQ6 (by kernel_rfl)
theorem e41E:eK zM 41 24 1 [.slice none 0 0]:=⟨⟨_,rfl,by kernel_rfl,by kernel_rfl⟩,t41.2.2.2.1,rfl⟩
theorem t43:TQ3 43 true 4 [.int .i64 0,.int .i64 0,.slice none 0 0,.slice none 0 0] [(0,1),(1,1),(2,1),(3,1)]:=kTQ3 (by kernel_rfl)
theorem r43:TR0 43 0 1 2 3:=⟨fun _ _ _=>⟨rfl,rfl,rfl,rfl⟩,fun _ _ _ _=>⟨rfl,rfl,rfl,rfl⟩⟩
theorem t44:TQ6 44 (.slice 56) false 1 [.slice none 0 0]:=kTQ6 (by kernel_rfl)
theorem t48:TQ3 48 true 4 [.int .i64 0,.int .i64 0,.int .i64 0,.int .i64 0] [(0,1),(1,1),(2,1),(3,1)]:=kTQ3 (by kernel_rfl)
theorem r48:TR0 48 0 1 2 3:=⟨fun _ _ _=>⟨rfl,rfl,rfl,rfl⟩,fun _ _ _ _=>⟨rfl,rfl,rfl,rfl⟩⟩
theorem t56:TQ3 56 true 4 [.int .i64 0,.int .i64 0,.int .i64 0,.int .i64 0] [(0,1),(1,1),(2,1),(3,1)]:=kTQ3 (by kernel_rfl)
theorem r56:TR0 56 0 1 2 3:=⟨fun _ _ _=>⟨rfl,rfl,rfl,rfl⟩,fun _ _ _ _=>⟨rfl,rfl,rfl,rfl⟩⟩
theorem e56E:eK zM 56 32 4 [.int .i64 0,.int .i64 0,.int .i64 0,.int .i64 0]:=⟨⟨_,rfl,by kernel_rfl,by kernel_rfl⟩,t56.2.2.1,rfl⟩
theorem t60:TQ3 60 true 4 [.int .i64 0,.slice none 0 0,.slice none 0 0,.slice none 0 0] [(0,1),(1,1),(2,1),(3,1)]:=kTQ3 (by kernel_rfl)
theorem r60:TR0 60 0 1 2 3:=⟨fun _ _ _=>⟨rfl,rfl,rfl,rfl⟩,fun _ _ _ _=>⟨rfl,rfl,rfl,rfl⟩⟩
theorem t82:TQ6 82 (.slice 23) false 1 [.slice none 0 0]:=kTQ6 (by kernel_rfl)
theorem t93:TQ6 93 (.slice 41) false 1 [.slice none 0 0]:=kTQ6 (by kernel_rfl)
theorem t95:TQ3 95 true 6 [.int .i64 0,.slice none 0 0,.slice none 0 0,.slice none 0 0,.slice none 0 0,.slice none 0 0] [(0,4),(4,1),(5,1)]:=kTQ3 (by kernel_rfl)
theorem r95:TR4 95 0 4 5:=⟨fun _ _ _=>⟨rfl,rfl,rfl⟩,fun _ _ _ _ _ _=>⟨rfl,rfl,rfl⟩⟩
theorem t170:TQ3 170 true 4 [.int .i64 0,.slice none 0 0,.slice none 0 0,.slice none 0 0] [(0,1),(1,1),(2,1),(3,1)]:=kTQ3 (by kernel_rfl)
theorem r170:TR0 170 0 1 2 3:=⟨fun _ _ _=>⟨rfl,rfl,rfl,rfl⟩,fun _ _ _ _=>⟨rfl,rfl,rfl,rfl⟩⟩
theorem t179:TQ3 179 true 2 [.slice none 0 0,.int .i64 0] [(0,1),(1,1)]:=kTQ3 (by kernel_rfl)
theorem r179:TR1 179 0 1:=⟨fun _ _ _=>⟨rfl,rfl⟩,fun _ _=>⟨rfl,rfl⟩⟩
theorem t184:TQ4 184 (.pointer 5) false 1 [.pointer none]:=kTQ4 (by kernel_rfl)
theorem t254:TQ3 254 true 4 [.int .i64 0,.int .i64 0,.int .i64 0,.slice none 0 0] [(0,1),(1,1),(2,1),(3,1)]:=kTQ3 (by kernel_rfl)
theorem r254:TR0 254 0 1 2 3:=⟨fun _ _ _=>⟨rfl,rfl,rfl,rfl⟩,fun _ _ _ _=>⟨rfl,rfl,rfl,rfl⟩⟩
theorem t304:TQ1 304 (.int .u8) false 1 [.int .u8 0]:=kTQ1 (by kernel_rfl)
theorem t357:TQ1 357 (.int .u32) false 1 [.int .u32 0]:=kTQ1 (by kernel_rfl)
theorem t367:TQ3 367 true 4 [.pointer none,.pointer none,.pointer none,.string ⟨#[]⟩] [(0,1),(1,1),(2,1),(3,1)]:=kTQ3 (by kernel_rfl)
theorem r367:TR0 367 0 1 2 3:=⟨fun _ _ _=>⟨rfl,rfl,rfl,rfl⟩,fun _ _ _ _=>⟨rfl,rfl,rfl,rfl⟩⟩
theorem t368:TQ2 368 (.array 0 16) true 0 []:=kTQ2 (by kernel_rfl)
theorem t370:TQ7 370 true 0 []:=kTQ7 (by kernel_rfl)
theorem t372:TQ1 372 (.int .u8) false 1 [.int .u8 0]:=kTQ1 (by kernel_rfl)
theorem t373:TQ0 373 false 1 [.nilFunc]:=kTQ0 (by kernel_rfl)
theorem t374:TQ1 374 (.int .i32) false 1 [.int .i32 0]:=kTQ1 (by kernel_rfl)
theorem t375:TQ1 375 (.int .i32) false 1 [.int .i32 0]:=kTQ1 (by kernel_rfl)
theorem t377:TQ3 377 true 11 [.int .u64 0,.int .u64 0,.int .u32 0,.int .u8 0,.int .u8 0,.int .u8 0,.int .u8 0,.nilFunc,.pointer none,.int .i32 0,.int .i32 0] [(0,1),(1,1),(2,1),(3,1),(4,1),(5,1),(6,1),(7,1),(8,1),(9,1),(10,1)]:=kTQ3 (by kernel_rfl)
theorem r377:TR5 377 0 1 2 3 4 5 6 7 8 9 10:=⟨fun _ _ _=>⟨rfl,rfl,rfl,rfl,rfl,rfl,rfl,rfl,rfl,rfl,rfl⟩,fun _ _ _ _ _ _ _ _ _ _ _=>⟨rfl,rfl,rfl,rfl,rfl,rfl,rfl,rfl,rfl,rfl,rfl⟩⟩
theorem e4:zM.fn 4=some Tryz.f4:=by kernel_rfl
theorem t58:TQ6 58 (.slice 139) false 1 [.slice none 0 0]:=kTQ6 (by kernel_rfl)
theorem t139:TQ3 139 true 3 [.int .i64 0,.int .i64 0,.int .i64 0] [(0,1),(1,1),(2,1)]:=kTQ3 (by kernel_rfl)
theorem r139:TR6 139 0 1 2:=⟨fun _ _ _=>⟨rfl,rfl,rfl⟩,fun _ _ _=>⟨rfl,rfl,rfl⟩⟩
theorem e139E:eK zM 139 24 3 [.int .i64 0,.int .i64 0,.int .i64 0]:=⟨⟨_,rfl,by kernel_rfl,by kernel_rfl⟩,t139.2.2.1,rfl⟩
theorem t29:TQ0 29 false 1 [.nilFunc]:=kTQ0 (by kernel_rfl)
theorem t30:TQ0 30 false 1 [.nilFunc]:=kTQ0 (by kernel_rfl)
theorem t35:TQ3 35 true 4 [.pointer none,.pointer none,.pointer none,.pointer none] [(0,1),(1,1),(2,1),(3,1)]:=kTQ3 (by kernel_rfl)
theorem r35:TR0 35 0 1 2 3:=⟨fun _ _ _=>⟨rfl,rfl,rfl,rfl⟩,fun _ _ _ _=>⟨rfl,rfl,rfl,rfl⟩⟩
theorem t37:TQ0 37 false 1 [.nilFunc]:=kTQ0 (by kernel_rfl)
theorem t38:TQ3 38 true 2 [.pointer none,.pointer none] [(0,1),(1,1)]:=kTQ3 (by kernel_rfl)
theorem r38:TR1 38 0 1:=⟨fun _ _ _=>⟨rfl,rfl⟩,fun _ _=>⟨rfl,rfl⟩⟩
theorem t42:TQ3 42 true 4 [.int .i64 0,.int .i64 0,.slice none 0 0,.slice none 0 0] [(0,1),(1,1),(2,1),(3,1)]:=kTQ3 (by kernel_rfl)
theorem r42:TR0 42 0 1 2 3:=⟨fun _ _ _=>⟨rfl,rfl,rfl,rfl⟩,fun _ _ _ _=>⟨rfl,rfl,rfl,rfl⟩⟩
theorem t46:TQ0 46 false 1 [.nilFunc]:=kTQ0 (by kernel_rfl)
theorem t47:TQ3 47 true 4 [.int .i64 0,.int .i64 0,.int .i64 0,.int .i64 0] [(0,1),(1,1),(2,1),(3,1)]:=kTQ3 (by kernel_rfl)
theorem r47:TR0 47 0 1 2 3:=⟨fun _ _ _=>⟨rfl,rfl,rfl,rfl⟩,fun _ _ _ _=>⟨rfl,rfl,rfl,rfl⟩⟩
theorem t74:TQ4 74 (.pointer 76) false 1 [.pointer none]:=kTQ4 (by kernel_rfl)
theorem t76:TQ3 76 true 2 [.slice none 0 0,.int .i64 0] [(0,1),(1,1)]:=kTQ3 (by kernel_rfl)
theorem r76:TR1 76 0 1:=⟨fun _ _ _=>⟨rfl,rfl⟩,fun _ _=>⟨rfl,rfl⟩⟩
theorem t78:TQ5 78 false 1 [.nilIface]:=kTQ5 (by kernel_rfl)
theorem t90:TQ1 90 (.int .u64) false 1 [.int .u64 0]:=kTQ1 (by kernel_rfl)
theorem e9:zM.fn 9=some Tryz.f9:=by kernel_rfl
theorem e10:zM.fn 10=some Tryz.f10:=by kernel_rfl
theorem e11:zM.fn 11=some Tryz.f11:=by kernel_rfl
theorem t99:TQ3 99 true 3 [.int .i64 0,.slice none 0 0,.slice none 0 0] [(0,1),(1,1),(2,1)]:=kTQ3 (by kernel_rfl)
theorem r99:TR6 99 0 1 2:=⟨fun _ _ _=>⟨rfl,rfl,rfl⟩,fun _ _ _=>⟨rfl,rfl,rfl⟩⟩
theorem t103:TQ6 103 (.slice 4) false 1 [.slice none 0 0]:=kTQ6 (by kernel_rfl)
theorem t105:TQ3 105 true 4 [.int .i64 0,.int .i64 0,.slice none 0 0,.slice none 0 0] [(0,1),(1,1),(2,1),(3,1)]:=kTQ3 (by kernel_rfl)
theorem r105:TR0 105 0 1 2 3:=⟨fun _ _ _=>⟨rfl,rfl,rfl,rfl⟩,fun _ _ _ _=>⟨rfl,rfl,rfl,rfl⟩⟩
theorem e12:zM.fn 12=some Tryz.f12:=by kernel_rfl
theorem e13:zM.fn 13=some Tryz.f13:=by kernel_rfl
theorem t113:TQ4 113 (.pointer 115) false 1 [.pointer none]:=kTQ4 (by kernel_rfl)
theorem t115:TQ3 115 true 8 [.pointer none,.pointer none,.pointer none,.pointer none,.int .i64 0,.int .i64 0,.int .i64 0,.int .i64 0] [(0,2),(2,1),(3,1),(4,4)]:=kTQ3 (by kernel_rfl)
theorem r115:TR7 115 0 2 3 4:=⟨fun _ _ _=>⟨rfl,rfl,rfl,rfl⟩,fun _ _ _ _ _ _ _ _=>⟨rfl,rfl,rfl,rfl⟩⟩
theorem t117:TQ0 117 false 1 [.nilFunc]:=kTQ0 (by kernel_rfl)
theorem t120:TQ0 120 false 1 [.nilFunc]:=kTQ0 (by kernel_rfl)
theorem t121:TQ2 121 (.map 3 120) false 1 [.map none]:=kTQ2 (by kernel_rfl)
theorem e15:zM.fn 15=some Tryz.f15:=by kernel_rfl
theorem t52:TQ0 52 false 1 [.nilFunc]:=kTQ0 (by kernel_rfl)
theorem t127:TQ0 127 false 1 [.nilFunc]:=kTQ0 (by kernel_rfl)
theorem t129:TQ3 129 true 3 [.bool false,.bool false,.nilFunc] [(0,1),(1,1),(2,1)]:=kTQ3 (by kernel_rfl)
theorem r129:TR6 129 0 1 2:=⟨fun _ _ _=>⟨rfl,rfl,rfl⟩,fun _ _ _=>⟨rfl,rfl,rfl⟩⟩
theorem t130:TQ2 130 (.array 6 129) true 18 [.bool false,.bool false,.nilFunc,.bool false,.bool false,.nilFunc,.bool false,.bool false,.nilFunc,.bool false,.bool false,.nilFunc,.bool false,.bool false,.nilFunc,.bool false,.bool false,.nilFunc]:=kTQ2 (by kernel_rfl)
theorem e16:zM.fn 16=some Tryz.f16:=by kernel_rfl
theorem e18:zM.fn 18=some Tryz.f18:=by kernel_rfl
theorem t136:TQ0 136 false 1 [.nilFunc]:=kTQ0 (by kernel_rfl)
theorem e30:zM.fn 30=some Tryz.f30:=by kernel_rfl
theorem e33:zM.fn 33=some Tryz.f33:=by kernel_rfl
theorem t157:TQ3 157 true 4 [.int .i64 0,.int .i64 0,.int .i64 0,.int .i64 0] [(0,1),(1,1),(2,1),(3,1)]:=kTQ3 (by kernel_rfl)
theorem r157:TR0 157 0 1 2 3:=⟨fun _ _ _=>⟨rfl,rfl,rfl,rfl⟩,fun _ _ _ _=>⟨rfl,rfl,rfl,rfl⟩⟩
theorem t159:TQ4 159 (.pointer 157) false 1 [.pointer none]:=kTQ4 (by kernel_rfl)
theorem t161:TQ3 161 true 1 [.pointer none] [(0,1)]:=kTQ3 (by kernel_rfl)
theorem r161:TR2 161 0:=⟨fun _ _ _=>rfl,fun _=>rfl⟩
theorem e34:zM.fn 34=some Tryz.f34:=by kernel_rfl
theorem t166:TQ0 166 false 1 [.nilFunc]:=kTQ0 (by kernel_rfl)
theorem t168:TQ0 168 false 1 [.nilFunc]:=kTQ0 (by kernel_rfl)
theorem e35:zM.fn 35=some Tryz.f35:=by kernel_rfl
theorem e36:zM.fn 36=some Tryz.f36:=by kernel_rfl
theorem t174:TQ0 174 false 1 [.nilFunc]:=kTQ0 (by kernel_rfl)
theorem t176:TQ0 176 false 1 [.nilFunc]:=kTQ0 (by kernel_rfl)
theorem e37:zM.fn 37=some Tryz.f37:=by kernel_rfl
theorem e38:zM.fn 38=some Tryz.f38:=by kernel_rfl
theorem e39:zM.fn 39=some Tryz.f39:=by kernel_rfl
theorem e40:zM.fn 40=some Tryz.f40:=by kernel_rfl
theorem t185:TQ0 185 false 1 [.nilFunc]:=kTQ0 (by kernel_rfl)
theorem e41:zM.fn 41=some Tryz.f41:=by kernel_rfl
theorem e42:zM.fn 42=some Tryz.f42:=by kernel_rfl
theorem e43:zM.fn 43=some Tryz.f43:=by kernel_rfl
theorem e44:zM.fn 44=some Tryz.f44:=by kernel_rfl
theorem t187:TQ0 187 false 1 [.nilFunc]:=kTQ0 (by kernel_rfl)
theorem t190:TQ3 190 true 2 [.nilFunc,.int .i64 0] [(0,1),(1,1)]:=kTQ3 (by kernel_rfl)
theorem r190:TR1 190 0 1:=⟨fun _ _ _=>⟨rfl,rfl⟩,fun _ _=>⟨rfl,rfl⟩⟩
theorem e190E:eK zM 190 16 2 [.nilFunc,.int .i64 0]:=⟨⟨_,rfl,by kernel_rfl,by kernel_rfl⟩,t190.2.2.1,rfl⟩
theorem t259:TQ6 259 (.slice 190) false 1 [.slice none 0 0]:=kTQ6 (by kernel_rfl)
theorem e45:zM.fn 45=some Tryz.f45:=by kernel_rfl
theorem t193:TQ0 193 false 1 [.nilFunc]:=kTQ0 (by kernel_rfl)
theorem e46:zM.fn 46=some Tryz.f46:=by kernel_rfl
theorem t196:TQ4 196 (.pointer 264) false 1 [.pointer none]:=kTQ4 (by kernel_rfl)
theorem t203:TQ0 203 false 1 [.nilFunc]:=kTQ0 (by kernel_rfl)
theorem t261:TQ4 261 (.pointer 325) false 1 [.pointer none]:=kTQ4 (by kernel_rfl)
theorem t264:TQ3 264 true 8 [.pointer none,.pointer none,.slice none 0 0,.slice none 0 0,.slice none 0 0,.nilFunc,.nilFunc,.slice none 0 0] [(0,1),(1,1),(2,1),(3,1),(4,1),(5,1),(6,1),(7,1)]:=kTQ3 (by kernel_rfl)
theorem r264:TR3 264 0 1 2 3 4 5 6 7:=⟨fun _ _ _=>⟨rfl,rfl,rfl,rfl,rfl,rfl,rfl,rfl⟩,fun _ _ _ _ _ _ _ _=>⟨rfl,rfl,rfl,rfl,rfl,rfl,rfl,rfl⟩⟩
theorem e47:zM.fn 47=some Tryz.f47:=by kernel_rfl
theorem t201:TQ0 201 false 1 [.nilFunc]:=kTQ0 (by kernel_rfl)
theorem e48:zM.fn 48=some Tryz.f48:=by kernel_rfl
theorem t212:TQ0 212 false 1 [.nilFunc]:=kTQ0 (by kernel_rfl)
theorem t213:TQ0 213 false 1 [.nilFunc]:=kTQ0 (by kernel_rfl)
theorem t232:TQ2 232 (.map 3 3) false 1 [.map none]:=kTQ2 (by kernel_rfl)
theorem e55:zM.fn 55=some Tryz.f55:=by kernel_rfl
theorem e56:zM.fn 56=some Tryz.f56:=by kernel_rfl
theorem e57:zM.fn 57=some Tryz.f57:=by kernel_rfl
theorem e58:zM.fn 58=some Tryz.f58:=by kernel_rfl
theorem e59:zM.fn 59=some Tryz.f59:=by kernel_rfl
theorem t125:TQ3 125 true 1 [.int .i64 0] [(0,1)]:=kTQ3 (by kernel_rfl)
theorem r125:TR2 125 0:=⟨fun _ _ _=>rfl,fun _=>rfl⟩
theorem e60:zM.fn 60=some Tryz.f60:=by kernel_rfl
theorem e61:zM.fn 61=some Tryz.f61:=by kernel_rfl
theorem e62:zM.fn 62=some Tryz.f62:=by kernel_rfl
theorem t101:TQ0 101 false 1 [.nilFunc]:=kTQ0 (by kernel_rfl)
theorem e63:zM.fn 63=some Tryz.f63:=by kernel_rfl
theorem e64:zM.fn 64=some Tryz.f64:=by kernel_rfl
theorem t220:TQ0 220 false 1 [.nilFunc]:=kTQ0 (by kernel_rfl)
theorem t224:TQ0 224 false 1 [.nilFunc]:=kTQ0 (by kernel_rfl)
theorem e65:zM.fn 65=some Tryz.f65:=by kernel_rfl
theorem e66:zM.fn 66=some Tryz.f66:=by kernel_rfl
theorem e67:zM.fn 67=some Tryz.f67:=by kernel_rfl
theorem e78:zM.fn 78=some Tryz.f78:=by kernel_rfl
theorem e79:zM.fn 79=some Tryz.f79:=by kernel_rfl
theorem e80:zM.fn 80=some Tryz.f80:=by kernel_rfl
theorem t243:TQ0 243 false 1 [.nilFunc]:=kTQ0 (by kernel_rfl)
theorem e82:zM.fn 82=some Tryz.f82:=by kernel_rfl
theorem e83:zM.fn 83=some Tryz.f83:=by kernel_rfl
theorem e84:zM.fn 84=some Tryz.f84:=by kernel_rfl
theorem e85:zM.fn 85=some Tryz.f85:=by kernel_rfl
theorem e86:zM.fn 86=some Tryz.f86:=by kernel_rfl
theorem t247:TQ3 247 true 3 [.slice none 0 0,.slice none 0 0,.slice none 0 0] [(0,1),(1,1),(2,1)]:=kTQ3 (by kernel_rfl)
theorem r247:TR6 247 0 1 2:=⟨fun _ _ _=>⟨rfl,rfl,rfl⟩,fun _ _ _=>⟨rfl,rfl,rfl⟩⟩
theorem e87:zM.fn 87=some Tryz.f87:=by kernel_rfl
theorem e88:zM.fn 88=some Tryz.f88:=by kernel_rfl
theorem e89:zM.fn 89=some Tryz.f89:=by kernel_rfl
theorem t173:TQ0 173 false 1 [.nilFunc]:=kTQ0 (by kernel_rfl)
theorem e90:zM.fn 90=some Tryz.f90:=by kernel_rfl
theorem e91:zM.fn 91=some Tryz.f91:=by kernel_rfl
theorem e92:zM.fn 92=some Tryz.f92:=by kernel_rfl
theorem e93:zM.fn 93=some Tryz.f93:=by kernel_rfl
theorem e94:zM.fn 94=some Tryz.f94:=by kernel_rfl
theorem e95:zM.fn 95=some Tryz.f95:=by kernel_rfl
theorem t123:TQ0 123 false 1 [.nilFunc]:=kTQ0 (by kernel_rfl)
theorem e96:zM.fn 96=some Tryz.f96:=by kernel_rfl
theorem e97:zM.fn 97=some Tryz.f97:=by kernel_rfl
theorem e98:zM.fn 98=some Tryz.f98:=by kernel_rfl
theorem e99:zM.fn 99=some Tryz.f99:=by kernel_rfl
theorem e100:zM.fn 100=some Tryz.f100:=by kernel_rfl
theorem e101:zM.fn 101=some Tryz.f101:=by kernel_rfl
theorem e102:zM.fn 102=some Tryz.f102:=by kernel_rfl
theorem e103:zM.fn 103=some Tryz.f103:=by kernel_rfl
theorem e104:zM.fn 104=some Tryz.f104:=by kernel_rfl
theorem e105:zM.fn 105=some Tryz.f105:=by kernel_rfl
theorem e106:zM.fn 106=some Tryz.f106:=by kernel_rfl
theorem e107:zM.fn 107=some Tryz.f107:=by kernel_rfl
theorem e108:zM.fn 108=some Tryz.f108:=by kernel_rfl
theorem e109:zM.fn 109=some Tryz.f109:=by kernel_rfl
theorem e110:zM.fn 110=some Tryz.f110:=by kernel_rfl
theorem e111:zM.fn 111=some Tryz.f111:=by kernel_rfl
theorem e112:zM.fn 112=some Tryz.f112:=by kernel_rfl
theorem e113:zM.fn 113=some Tryz.f113:=by kernel_rfl
theorem e114:zM.fn 114=some Tryz.f114:=by kernel_rfl
theorem e115:zM.fn 115=some Tryz.f115:=by kernel_rfl
theorem e116:zM.fn 116=some Tryz.f116:=by kernel_rfl
theorem e117:zM.fn 117=some Tryz.f117:=by kernel_rfl
theorem t323:TQ3 323 true 2 [.slice none 0 0,.map none] [(0,1),(1,1)]:=kTQ3 (by kernel_rfl)
theorem r323:TR1 323 0 1:=⟨fun _ _ _=>⟨rfl,rfl⟩,fun _ _=>⟨rfl,rfl⟩⟩
theorem t325:TQ3 325 true 3 [.slice none 0 0,.map none,.int .i64 0] [(0,2),(2,1)]:=kTQ3 (by kernel_rfl)
theorem r325:TR8 325 0 2:=⟨fun _ _ _=>⟨rfl,rfl⟩,fun _ _ _=>⟨rfl,rfl⟩⟩
theorem e118:zM.fn 118=some Tryz.f118:=by kernel_rfl
theorem e119:zM.fn 119=some Tryz.f119:=by kernel_rfl
theorem e120:zM.fn 120=some Tryz.f120:=by kernel_rfl
theorem e121:zM.fn 121=some Tryz.f121:=by kernel_rfl
theorem e122:zM.fn 122=some Tryz.f122:=by kernel_rfl
theorem t271:TQ0 271 false 1 [.nilFunc]:=kTQ0 (by kernel_rfl)
theorem e130:zM.fn 130=some Tryz.f130:=by kernel_rfl
theorem e132:zM.fn 132=some Tryz.f132:=by kernel_rfl
theorem e138:zM.fn 138=some Tryz.f138:=by kernel_rfl
theorem t221:TQ0 221 false 1 [.nilFunc]:=kTQ0 (by kernel_rfl)
theorem e142:zM.fn 142=some Tryz.f142:=by kernel_rfl
theorem e143:zM.fn 143=some Tryz.f143:=by kernel_rfl
theorem e144:zM.fn 144=some Tryz.f144:=by kernel_rfl
theorem e145:zM.fn 145=some Tryz.f145:=by kernel_rfl
theorem e146:zM.fn 146=some Tryz.f146:=by kernel_rfl
theorem e147:zM.fn 147=some Tryz.f147:=by kernel_rfl
theorem e148:zM.fn 148=some Tryz.f148:=by kernel_rfl
theorem e149:zM.fn 149=some Tryz.f149:=by kernel_rfl
theorem e150:zM.fn 150=some Tryz.f150:=by kernel_rfl
theorem e151:zM.fn 151=some Tryz.f151:=by kernel_rfl
theorem e152:zM.fn 152=some Tryz.f152:=by kernel_rfl
theorem e154:zM.fn 154=some Tryz.f154:=by kernel_rfl
theorem t285:TQ0 285 false 1 [.nilFunc]:=kTQ0 (by kernel_rfl)
theorem e155:zM.fn 155=some Tryz.f155:=by kernel_rfl
theorem e156:zM.fn 156=some Tryz.f156:=by kernel_rfl
theorem e157:zM.fn 157=some Tryz.f157:=by kernel_rfl
theorem e158:zM.fn 158=some Tryz.f158:=by kernel_rfl
theorem e159:zM.fn 159=some Tryz.f159:=by kernel_rfl
theorem e160:zM.fn 160=some Tryz.f160:=by kernel_rfl
theorem e161:zM.fn 161=some Tryz.f161:=by kernel_rfl
theorem e167:zM.fn 167=some Tryz.f167:=by kernel_rfl
theorem t237:TQ3 237 true 1 [.pointer none] [(0,1)]:=kTQ3 (by kernel_rfl)
theorem r237:TR2 237 0:=⟨fun _ _ _=>rfl,fun _=>rfl⟩
theorem e169:zM.fn 169=some Tryz.f169:=by kernel_rfl
theorem t289:TQ0 289 false 1 [.nilFunc]:=kTQ0 (by kernel_rfl)
theorem t291:TQ0 291 false 1 [.nilFunc]:=kTQ0 (by kernel_rfl)
theorem e291E:eK zM 291 8 1 [.nilFunc]:=⟨⟨_,rfl,by kernel_rfl,by kernel_rfl⟩,t291.2.2.1,rfl⟩
theorem t293:TQ6 293 (.slice 291) false 1 [.slice none 0 0]:=kTQ6 (by kernel_rfl)
theorem t295:TQ3 295 true 6 [.int .i64 0,.int .i64 0,.int .i64 0,.int .i64 0,.int .i64 0,.int .i64 0] [(0,1),(1,1),(2,1),(3,1),(4,1),(5,1)]:=kTQ3 (by kernel_rfl)
theorem r295:TR9 295 0 1 2 3 4 5:=⟨fun _ _ _=>⟨rfl,rfl,rfl,rfl,rfl,rfl⟩,fun _ _ _ _ _ _=>⟨rfl,rfl,rfl,rfl,rfl,rfl⟩⟩
theorem e295E:eK zM 295 48 6 [.int .i64 0,.int .i64 0,.int .i64 0,.int .i64 0,.int .i64 0,.int .i64 0]:=⟨⟨_,rfl,by kernel_rfl,by kernel_rfl⟩,t295.2.2.1,rfl⟩
theorem e170:zM.fn 170=some Tryz.f170:=by kernel_rfl
theorem e172:zM.fn 172=some Tryz.f172:=by kernel_rfl
theorem e173:zM.fn 173=some Tryz.f173:=by kernel_rfl
theorem e174:zM.fn 174=some Tryz.f174:=by kernel_rfl
theorem e175:zM.fn 175=some Tryz.f175:=by kernel_rfl
theorem e176:zM.fn 176=some Tryz.f176:=by kernel_rfl
theorem e177:zM.fn 177=some Tryz.f177:=by kernel_rfl
theorem e178:zM.fn 178=some Tryz.f178:=by kernel_rfl
theorem t102:TQ0 102 false 1 [.nilFunc]:=kTQ0 (by kernel_rfl)
theorem t309:TQ4 309 (.pointer 312) false 1 [.pointer none]:=kTQ4 (by kernel_rfl)
theorem t312:TQ3 312 true 5 [.pointer none,.slice none 0 0,.slice none 0 0,.slice none 0 0,.map none] [(0,1),(1,3),(4,1)]:=kTQ3 (by kernel_rfl)
theorem r312:TR10 312 0 1 4:=⟨fun _ _ _=>⟨rfl,rfl,rfl⟩,fun _ _ _ _ _=>⟨rfl,rfl,rfl⟩⟩
theorem t314:TQ0 314 false 1 [.nilFunc]:=kTQ0 (by kernel_rfl)
theorem e179:zM.fn 179=some Tryz.f179:=by kernel_rfl
theorem e180:zM.fn 180=some Tryz.f180:=by kernel_rfl
theorem e181:zM.fn 181=some Tryz.f181:=by kernel_rfl
theorem e182:zM.fn 182=some Tryz.f182:=by kernel_rfl
theorem e183:zM.fn 183=some Tryz.f183:=by kernel_rfl
theorem e184:zM.fn 184=some Tryz.f184:=by kernel_rfl
theorem e185:zM.fn 185=some Tryz.f185:=by kernel_rfl
theorem e186:zM.fn 186=some Tryz.f186:=by kernel_rfl
theorem t255:TQ0 255 false 1 [.nilFunc]:=kTQ0 (by kernel_rfl)
theorem e187:zM.fn 187=some Tryz.f187:=by kernel_rfl
theorem e188:zM.fn 188=some Tryz.f188:=by kernel_rfl
theorem e189:zM.fn 189=some Tryz.f189:=by kernel_rfl
theorem e190:zM.fn 190=some Tryz.f190:=by kernel_rfl
theorem e191:zM.fn 191=some Tryz.f191:=by kernel_rfl
theorem e192:zM.fn 192=some Tryz.f192:=by kernel_rfl
theorem e193:zM.fn 193=some Tryz.f193:=by kernel_rfl
theorem e194:zM.fn 194=some Tryz.f194:=by kernel_rfl
theorem e195:zM.fn 195=some Tryz.f195:=by kernel_rfl
theorem t321:TQ6 321 (.slice 330) false 1 [.slice none 0 0]:=kTQ6 (by kernel_rfl)
theorem t330:TQ3 330 true 2 [.int .i64 0,.int .i64 0] [(0,1),(1,1)]:=kTQ3 (by kernel_rfl)
theorem r330:TR1 330 0 1:=⟨fun _ _ _=>⟨rfl,rfl⟩,fun _ _=>⟨rfl,rfl⟩⟩
theorem e330E:eK zM 330 16 2 [.int .i64 0,.int .i64 0]:=⟨⟨_,rfl,by kernel_rfl,by kernel_rfl⟩,t330.2.2.1,rfl⟩
theorem e196:zM.fn 196=some Tryz.f196:=by kernel_rfl
theorem t326:TQ1 326 (.int .u64) false 1 [.int .u64 0]:=kTQ1 (by kernel_rfl)
theorem e197:zM.fn 197=some Tryz.f197:=by kernel_rfl
theorem e198:zM.fn 198=some Tryz.f198:=by kernel_rfl
theorem e199:zM.fn 199=some Tryz.f199:=by kernel_rfl
theorem e200:zM.fn 200=some Tryz.f200:=by kernel_rfl
theorem e201:zM.fn 201=some Tryz.f201:=by kernel_rfl
theorem e202:zM.fn 202=some Tryz.f202:=by kernel_rfl
theorem e203:zM.fn 203=some Tryz.f203:=by kernel_rfl
theorem e204:zM.fn 204=some Tryz.f204:=by kernel_rfl
theorem e207:zM.fn 207=some Tryz.f207:=by kernel_rfl
theorem e209:zM.fn 209=some Tryz.f209:=by kernel_rfl
theorem e210:zM.fn 210=some Tryz.f210:=by kernel_rfl
theorem e215:zM.fn 215=some Tryz.f215:=by kernel_rfl
theorem t283:TQ0 283 false 1 [.nilFunc]:=kTQ0 (by kernel_rfl)
theorem e216:zM.fn 216=some Tryz.f216:=by kernel_rfl
theorem e217:zM.fn 217=some Tryz.f217:=by kernel_rfl
theorem e218:zM.fn 218=some Tryz.f218:=by kernel_rfl
theorem e219:zM.fn 219=some Tryz.f219:=by kernel_rfl
theorem e220:zM.fn 220=some Tryz.f220:=by kernel_rfl
theorem e221:zM.fn 221=some Tryz.f221:=by kernel_rfl
theorem e222:zM.fn 222=some Tryz.f222:=by kernel_rfl
theorem e224:zM.fn 224=some Tryz.f224:=by kernel_rfl
theorem e225:zM.fn 225=some Tryz.f225:=by kernel_rfl
theorem t335:TQ6 335 (.slice 295) false 1 [.slice none 0 0]:=kTQ6 (by kernel_rfl)
theorem e226:zM.fn 226=some Tryz.f226:=by kernel_rfl
theorem e227:zM.fn 227=some Tryz.f227:=by kernel_rfl
theorem e228:zM.fn 228=some Tryz.f228:=by kernel_rfl
theorem e229:zM.fn 229=some Tryz.f229:=by kernel_rfl
theorem e230:zM.fn 230=some Tryz.f230:=by kernel_rfl
theorem e231:zM.fn 231=some Tryz.f231:=by kernel_rfl
theorem e232:zM.fn 232=some Tryz.f232:=by kernel_rfl
theorem e233:zM.fn 233=some Tryz.f233:=by kernel_rfl
theorem e238:zM.fn 238=some Tryz.f238:=by kernel_rfl
theorem e239:zM.fn 239=some Tryz.f239:=by kernel_rfl
theorem e240:zM.fn 240=some Tryz.f240:=by kernel_rfl
theorem e241:zM.fn 241=some Tryz.f241:=by kernel_rfl
theorem e242:zM.fn 242=some Tryz.f242:=by kernel_rfl
theorem e243:zM.fn 243=some Tryz.f243:=by kernel_rfl
theorem e244:zM.fn 244=some Tryz.f244:=by kernel_rfl
theorem e245:zM.fn 245=some Tryz.f245:=by kernel_rfl
theorem e246:zM.fn 246=some Tryz.f246:=by kernel_rfl
theorem e247:zM.fn 247=some Tryz.f247:=by kernel_rfl
theorem e248:zM.fn 248=some Tryz.f248:=by kernel_rfl
theorem e249:zM.fn 249=some Tryz.f249:=by kernel_rfl
theorem e250:zM.fn 250=some Tryz.f250:=by kernel_rfl
theorem t362:TQ4 362 (.pointer 323) false 1 [.pointer none]:=kTQ4 (by kernel_rfl)
theorem e251:zM.fn 251=some Tryz.f251:=by kernel_rfl
theorem e252:zM.fn 252=some Tryz.f252:=by kernel_rfl
theorem e253:zM.fn 253=some Tryz.f253:=by kernel_rfl
theorem e254:zM.fn 254=some Tryz.f254:=by kernel_rfl
theorem e255:zM.fn 255=some Tryz.f255:=by kernel_rfl
theorem e256:zM.fn 256=some Tryz.f256:=by kernel_rfl
theorem e257:zM.fn 257=some Tryz.f257:=by kernel_rfl
theorem e258:zM.fn 258=some Tryz.f258:=by kernel_rfl
theorem t336:TQ0 336 false 1 [.nilFunc]:=kTQ0 (by kernel_rfl)
theorem e259:zM.fn 259=some Tryz.f259:=by kernel_rfl
theorem e260:zM.fn 260=some Tryz.f260:=by kernel_rfl
theorem t351:TQ0 351 false 1 [.nilFunc]:=kTQ0 (by kernel_rfl)
theorem e264:zM.fn 264=some Tryz.f264:=by kernel_rfl
theorem e265:zM.fn 265=some Tryz.f265:=by kernel_rfl
theorem e266:zM.fn 266=some Tryz.f266:=by kernel_rfl
theorem e267:zM.fn 267=some Tryz.f267:=by kernel_rfl
theorem e268:zM.fn 268=some Tryz.f268:=by kernel_rfl
theorem e269:zM.fn 269=some Tryz.f269:=by kernel_rfl
theorem e270:zM.fn 270=some Tryz.f270:=by kernel_rfl
theorem e273:zM.fn 273=some Tryz.f273:=by kernel_rfl
theorem e274:zM.fn 274=some Tryz.f274:=by kernel_rfl
theorem e275:zM.fn 275=some Tryz.f275:=by kernel_rfl
theorem e276:zM.fn 276=some Tryz.f276:=by kernel_rfl
theorem e277:zM.fn 277=some Tryz.f277:=by kernel_rfl
theorem e278:zM.fn 278=some Tryz.f278:=by kernel_rfl
theorem e279:zM.fn 279=some Tryz.f279:=by kernel_rfl
theorem e280:zM.fn 280=some Tryz.f280:=by kernel_rfl
theorem e281:zM.fn 281=some Tryz.f281:=by kernel_rfl
theorem e283:zM.fn 283=some Tryz.f283:=by kernel_rfl
theorem e284:zM.fn 284=some Tryz.f284:=by kernel_rfl
theorem e285:zM.fn 285=some Tryz.f285:=by kernel_rfl
theorem e286:zM.fn 286=some Tryz.f286:=by kernel_rfl
theorem e288:zM.fn 288=some Tryz.f288:=by kernel_rfl
end Tryz
end Go.Ab

end
section
namespace Go.Ab
set_option maxRecDepth 100000
def FA0:=aj t1<|aj t2<|aj t3<|aj t4<|aj t5<|aj t6<|aj t41<|aj t193<|aj t32<|aj t82<|aj t170<|aj r170<|aj t7<|aj r7<|aj t52<|aj t101<|aj t129<|aj r129<|aj t130<|aj t28<|aj t31<|aj t33<|aj t34<|aj t36<|aj r36<|aj t95<|aj r95<|aj t179<|aj r179<|aj t254<|aj r254<|aj t23<|aj t40<|aj t43<|aj r43<|aj t44<|aj t48<|aj r48<|aj t56<|aj r56<|aj t60<|aj r60<|aj t93<|aj t99<|aj r99<|aj t103<|aj t105<|aj r105<|aj t22<|aj t39<|aj r39<|aj t20<|aj t125<|aj r125<|aj t8<|aj r8<|aj t9<|aj t10<|aj t11<|aj t127<|aj t24<|aj t26<|aj r26<|aj t12<|aj t13<|aj r13<|aj t14<|aj r14<|aj t15<|aj t16<|aj t17<|aj t18<|aj r18<|aj t19<|aj r19<|aj t21<|aj t184<|aj t304<|aj t357<|aj t367<|aj r367<|aj t368<|aj t370<|aj t372<|aj t373<|aj t374<|aj t375<|aj t377<|aj r377<|aj t27<|aj t190<|aj r190<|aj t259<|aj t173<|aj t203<|aj t201<|aj t187<|aj t185<|aj t220<|aj t224<|aj t136<|aj t283<|aj t58<|aj t139<|aj r139<|aj t326<|aj t213<|aj t351<|aj t232<|aj t247<|aj r247<|aj t261<|aj t309<|aj t312<|aj r312<|aj t323<|aj r323<|aj t325<|aj r325<|aj t102<|aj t212<|aj t314<|aj t255<|aj t321<|aj t330<|aj r330<|aj t362<|aj t271<|aj t25<|aj r25<|aj t29<|aj t30<|aj t35<|aj r35<|aj t37<|aj t38<|aj r38<|aj t42<|aj r42<|aj t46<|aj t47<|aj r47<|aj t74<|aj t76<|aj r76<|aj t78<|aj t90<|aj t196<|aj t264<|aj r264<|aj t113<|aj t115<|aj r115<|aj t221<|aj t117<|aj t120<|aj t121<|aj t295<|aj r295<|aj t335<|aj t336<|aj t243<|aj t157<|aj r157<|aj t159<|aj t161<|aj r161<|aj t123<|aj t289<|aj t237<|aj r237<|aj t291<|aj t293<|aj t168<|aj t174<|aj t166<|aj t285<|t176
def BZ:=aj BS<|aj LB<|FA0
end Go.Ab

end
section
namespace Go.Ab
open Go.Proofs
set_option maxRecDepth 10000
theorem values{h0:Hp}(d:h0.t.Sized h0.n){v:Value}(e:Fl v):Ret zM 258 [v] h0 fun r c=>Gr h0 c/\ ∃b,r=.func (.func 278) #[] #[ptrTo b]/\h0.n<=b/\c.load b 0 1=some [v]:=by have S:=Si d;refine aa (n:=4) (rs:=[.tmp 2]) rfl Tryz.e258 rfl rfl rfl (lbt rfl) ?_;simp only [BZ,seval];refine ac (bW (by assumption)) S ?_;clear S;intro h b S a;simp only [BZ,ab,seval];exact⟨S.gr,b,rfl,a,S.ld m0 rfl⟩
theorem ul{h0:Hp}(d:h0.t.Sized h0.n){v:Value}{b:Nat}{ps:List Pl}(y:h0.load b 0 1=some [v])(q:av h0 6 jW v ps)(r:ps.length<1000):
 Iter zM 278 [] [ptrTo b] h0 (fun c=>c=b\/aq v c) (ps.map fun p=>[.agg ⟨jW p⟩]):=by
 refine tD fun z J Z Y h F s k=>?_;refine enter (n:=16) (rs:=[]) rfl Tryz.e278 rfl rfl rfl (lbt rfl) ?_;have l:=s.load d y (.inl rfl);have f:=s.sl d q (fun b h=>.inr h);simp only [BZ,l,f.lenq,seval];refine aV (fun(i:Nat) g h=>i<=ps.length/\ ∃F,ItS h0 (fun c=>c=b\/aq v c) h F/\J i h F/\g 0=.func (.yield z) #[] #[]/\g 5=v/\g 6=.int .i64 ps.length/\g 7=.int .i64 i) (fun i=>ps.length-i) ?_ 0 _ _ ?_
 . intro i A g h ⟨hi,F,s,k,r0,r5,r6,r7⟩;by_cases hlt:i<ps.length
   . have f:=s.sl d q (fun b h=>.inr h);obtain⟨c,o,j,m⟩:=f.ix (kd:=.i64) encP_len hlt;have S:=Si s.ok;have w:am .i64 ((i:Int)+1)=((i+1:Nat):Int):=(by rw [wrap64]<;>omega);simp only [BZ,r5,r6,r7,az,hlt,j,m,seval];refine ac ay S ?_;clear S;intro h B S t;simp only [BZ,jW,seval];refine aC (S.store (i:=0) rfl ?_ ?_ rfl rfl ?_ ono) ?_
     . exact(by exact Tryz.t295.2.1)
     . exact(by intro x e;cases e)
     . exact lbt rfl
     clear S;rintro h ⟨S,C⟩;clear C;simp only [LC,ae,lay,Xb,Xc,seval]at S;simp only [BZ,r0,S.lds (b:=B) (o:=0) (n:=6) m0 (lbt rfl),seval];refine cZ Y (s.gr S.gr) (Y.gr _ _ _ _ k S.gr) (i:=i) (by simp [hlt,jW]) ?_ ?_ ?_
     . intro u D a E _ _;simp only [BZ,r7,w,seval];exact A (i+1) _ _ (by omega) ⟨by omega,D,E,a,by simp [aw,r0,r5,r6]⟩
     . intro u a _;simp only [BZ,seval];exact gy rfl ⟨rfl,.inr (.inl ⟨_,rfl,a⟩)⟩
     . intro v u a;simp only [BZ];exact ku (cJ ⟨rfl,.inr (.inr ⟨_,rfl,a⟩)⟩)
   . simp only [BZ,r6,r7,az,hlt,seval];have:i=ps.length:=(by omega);subst this;exact cy (cJ ⟨rfl,_,rfl,rfl,.inl ⟨_,F,rfl,by simpa using k⟩⟩)
 . exact⟨by omega,F,s,k,by simp [aw,dh]⟩
def ot(f g:Nat)(v:Value)(h:Hp):Prop:= ∃d a b,∃(e:List Pl) (D:Nat->Prop),v=.func (.func d) a b/\Iter zM d a.toList b.toList h D (e.map fun p=>[.agg ⟨jW p⟩])/\(∀p∈e,p.lo<=p.n/\p.n<p.hi)/\ ∀c,D c->c<f\/g<=c
theorem one_ok{h0:Hp}(l:h0.t.Sized h0.n){c n a d:Int}(m:a<=n)(r:n<d):
 Ret zM 226 [.int .i64 c,.int .i64 n,.int .i64 a,.int .i64 d] h0 fun v j=>Gr h0 j/\ot 0 h0.n v j:=by
 have S:=Si l;refine aa (n:=16) (rs:=[.tmp 8]) rfl Tryz.e226 rfl rfl rfl (lbt rfl) ?_;simp only [BZ,seval];refine ac (bV (by exact Tryz.t335.1) (by exact Tryz.e295E) (by decide) (by rfl)) S ?_;clear S;intro h b S f;simp only [LC,a9,bQ,ae,Xi,Xf,Xg,Xn,seval]at S;simp only [BZ,seval];have q:=S.fr.n;refine step_ret (values S.ok bO) ?_;intro v h ⟨g,b2,e,n2,l2⟩;replace S:=S.call g;clear g;subst e;simp only [BZ,ab,seval];have s:av h 6 jW (.slice (some ⟨b,0,none⟩) 1 1) [⟨0,0,c,n,a,d⟩]:=.inr ⟨b,0,none,1,rfl,XF _,S.lds (b:=b) (o:=0) (n:=1*6) m0 (lbt rfl)⟩;exact⟨S.gr,_,#[],#[ptrTo b2],_,_,rfl,ul S.ok l2 s (by simp),by intro p k;simp at k;subst k;exact⟨m,r⟩,fun c i=>by rcases i with rfl|i;exact .inr (by omega);cases i;exact .inr f⟩
theorem shapes_ok{h0:Hp}(u:h0.t.Sized h0.n){a:Gra}(d:jY a){k l m:Value}(r:dS h0 k l m a):
 Ret zM 228 [kW a k l m] h0 fun v s=>Gr h0 s/\ot 0 h0.n v s:=by
 have S:=Si u;have A:=d.n1;have B:=d.n2;have w:am .i64 ((a.nodes:Int)+1)=((a.nodes+1:Nat):Int):=by rw [wrap64]<;>omega
 refine aa (n:=22) (rs:=[.tmp 2]) rfl Tryz.e228 rfl rfl rfl (lbt rfl) ?_;simp only [BZ,kW,seval];refine ac (bg (by intro x e;cases e)) S ?_;clear S;intro h b S y;simp only [ae]at S;simp only [BZ,r.X.lenq,r.Y.lenq,w,S.ld (b:=b) (o:=0) m0 rfl,S.ld (b:=b) (o:=1) m0 rfl,S.ld (b:=b) (o:=2) m0 rfl,seval];refine ac (bV (by exact Tryz.t335.1) (by exact Tryz.e295E) (by decide) (by rfl)) S ?_;clear S;intro h i S f;simp only [LC,a9,bQ,ae,Xi,Xf,Xg,Xn,seval]at S;simp only [BZ,seval];have q:=S.fr.n;refine step_ret (values S.ok bO) ?_;intro v h ⟨g,b2,e,n2',l2⟩;replace S:=S.call g;clear g;subst e;simp only [BZ,ab,seval];have z:av h 6 jW (.slice (some ⟨i,0,none⟩) 2 2) [⟨0,0,6,a.X.length,a.nodes,(a.nodes+1:Nat)⟩,⟨0,1,6,a.Y.length,a.nodes,(a.nodes+1:Nat)⟩]:=.inr ⟨i,0,none,2,rfl,XF _,S.lds (b:=i) (o:=0) (n:=2*6) m0 (lbt rfl)⟩;refine⟨S.gr,_,#[],#[ptrTo b2],_,_,rfl,ul S.ok l2 z (by simp),?_,fun c j=>by rcases j with rfl|j;exact .inr (by omega);cases j;exact .inr f⟩;intro p t;have:=d.lX;have:=d.lY;simp at t;rcases t with rfl|rfl<;>(simp only [];omega)
theorem nodes_ok{h0:Hp}(j:h0.t.Sized h0.n){c d f g:Value}:Ret zM 230 [.agg ⟨[g,c,d,f]⟩] h0 fun v i=>Gr h0 i/\ ∃b,v=.func (.func 259) #[] #[ptrTo b]/\h0.n<=b/\Row i b [g,c,d,f] 1:=by have S:=Si j;refine aa (n:=4) (rs:=[.tmp 2]) rfl Tryz.e230 rfl rfl rfl (lbt rfl) ?_;simp only [BZ,seval];refine ac (bg (by intro x e;cases e)) S ?_;clear S;intro h b S a;simp only [ae]at S;simp only [BZ,ab,seval];exact⟨S.gr,b,rfl,a,S.row m0⟩
theorem arcs_ok{h0:Hp}(j:h0.t.Sized h0.n){c d f g:Value}:Ret zM 233 [.agg ⟨[g,c,d,f]⟩] h0 fun v i=>Gr h0 i/\ ∃b,v=.func (.func 260) #[] #[ptrTo b]/\h0.n<=b/\Row i b [g,c,d,f] 1:=by have S:=Si j;refine aa (n:=4) (rs:=[.tmp 2]) rfl Tryz.e233 rfl rfl rfl (lbt rfl) ?_;simp only [BZ,seval];refine ac (bg (by intro x e;cases e)) S ?_;clear S;intro h b S a;simp only [ae]at S;simp only [BZ,ab,seval];exact⟨S.gr,b,rfl,a,S.row m0⟩
def plN(X Y:List Int):List Pl:=(zO X.length).flatMap fun(i:Nat)=>[⟨i,0,7,X.getD i 0,-2147483648,2147483648⟩,⟨i,1,7,Y.getD i 0,-2147483648,2147483648⟩]
theorem plN_len(X Y:List Int):(plN X Y).length=2*X.length:=by unfold plN;rw [XC];simp [XD];omega
theorem plN_at(X Y:List Int){i:Nat}(c:i<X.length):(plN X Y)[2*i]? =some ⟨i,0,7,X.getD i 0,-2147483648,2147483648⟩/\(plN X Y)[2*i+1]? =some ⟨i,1,7,Y.getD i 0,-2147483648,2147483648⟩:=by
 unfold plN;have b: ∀(n j:Nat) (f:Nat->Pl) (k:Nat->Pl),j<n->((zO n).flatMap fun i=>[f i,k i])[2*j]? =some (f j)/\((zO n).flatMap fun i=>[f i,k i])[2*j+1]? =some (k j):=by
  intro n
  induction n with
  |zero=>intro j f k d;omega| succ n e=>
    intro j f k d;have a:((zO n).flatMap fun i=>[f i,k i]).length=2*n:=(by rw [XC];simp [XD];omega);rw [XL,Xo];by_cases h:j<n
    . rw [Xk (by omega),Xk (by omega)];exact e j f k h
    . have:j=n:=(by omega);subst this;rw [Xj (by omega),Xj (by omega),a];simp
 exact b _ _ _ _ c
theorem CQ{h0:Hp}(d:h0.t.Sized h0.n){l m K L:Value}{b:Nat}{X Y:List Int}(t:Row h0 b [L,l,m,K] 1)(G:av h0 1 (encI .i64) l X)(M:av h0 1 (encI .i64) m Y)(hl:X.length=Y.length)(H:X.length<1000):
 Iter zM 259 [] [ptrTo b] h0 (fun c=>c=b\/aq l c\/aq m c) ((plN X Y).map fun p=>[.agg ⟨jW p⟩]):=by
 refine tD fun N J Z u h F s r=>?_;refine enter (n:=38) (rs:=[]) rfl Tryz.e259 rfl rfl rfl (lbt rfl) ?_;have x:=s.load d (t.load1 (o:=1) rfl) (.inl rfl);simp only [BZ,x,G.lenq,seval];refine aV (fun(i:Nat) g h=>i<=X.length/\ ∃F,ItS h0 (fun c=>c=b\/aq l c\/aq m c) h F/\J (2*i) h F/\g 0=.func (.yield N) #[] #[]/\g 1=ptrTo b/\g 8=.int .i64 X.length/\g 9=.int .i64 i) (fun i=>X.length-i) ?_ 0 _ _ ?_
 . intro i O g h ⟨hi,F,s,r,r0,r1,r8,r9⟩;by_cases hlt:i<X.length
   . have y:=s.sl d G (fun b h=>.inr (.inl h));have z:=s.sl d M (fun b h=>.inr (.inr h));have x:=s.load d (t.load1 (o:=1) rfl) (.inl rfl);have P:=s.load d (t.load1 (o:=2) rfl) (.inl rfl);obtain⟨c,o,j,A⟩:=y.ix (kd:=.i64) (bG _) hlt;obtain⟨c2,o2,f,k⟩:=z.ix (kd:=.i64) (bG _) (i:=i) (by omega);have S:=Si s.ok;have w:am .i64 ((i:Int)+1)=((i+1:Nat):Int):=(by rw [wrap64]<;>omega);simp only [BZ,r8,r9,az,hlt,seval];refine ar (ax rfl) (q:=1024) (ps:=[]) (by kernel_rfl) ?_;simp only [BZ,cls,r1,x,P,j,f,A,k,encI,seval];refine dL (bV (by exact Tryz.t23.1) (by exact Tryz.e2E) (by decide) (by rfl)) S ?_;clear S;intro h e S B C;simp only [LC,a9,bQ,ae,Xi,Xf,Xg,Xn,seval]at S;simp only [BZ,cls,Xl,seval];have Q:am .i64 1=1:=rfl;have T:am .i64 2=2:=rfl;have I:=plN_at X Y hlt;rw [cE];simp only [BZ,Xl,r0,S.ld (b:=e) (o:=0) m0 rfl,S.ld (b:=e) (o:=1) m0 rfl,seval];refine cZ u (s.gr S.gr) (u.gr _ _ _ _ r S.gr) (i:=2*i) (by rw [Xq,I.1];simp [jW,Xd,hlt]) ?_ ?_ ?_
     . intro U F2 a V D _;have W:e∉F:=fun hm=>(by have:=s.lt _ hm;omega);have R:Row U e _ 1:=(S.row m0).of_get (D.get _ ((S.row m0).lt S.ok) W);have R1:=R.load1 (o:=1) rfl;have ad:True:=trivial;simp only [BZ,Q,seval];rw [cE];simp only [BZ,Xl,r0,R1,seval];refine cZ u V a (i:=2*i+1) (by rw [Xq,I.2];simp [jW,Xd,show i<Y.length by omega]) ?_ ?_ ?_
       . intro h3 F3 a s3 _ _;simp only [BZ,T,seval];rw [cE];simp only [BZ,r9,w,seval];exact O (i+1) _ _ (by omega) ⟨by omega,F3,s3,a,by simp [aw,r0,r1,r8]⟩
       . intro E a _;simp only [BZ,seval];exact gy rfl ⟨rfl,.inr (.inl ⟨_,rfl,a⟩)⟩
       . intro v E a;simp only [BZ];exact ku (cJ ⟨rfl,.inr (.inr ⟨_,rfl,a⟩)⟩)
     . intro E a _;simp only [BZ,seval];exact gy rfl ⟨rfl,.inr (.inl ⟨_,rfl,a⟩)⟩
     . intro v E a;simp only [BZ];exact ku (cJ ⟨rfl,.inr (.inr ⟨_,rfl,a⟩)⟩)
   . simp only [BZ,r8,r9,az,hlt,seval];have:i=X.length:=(by omega);subst this;exact cy (cJ ⟨rfl,_,rfl,rfl,.inl ⟨_,F,rfl,by simpa [plN_len]using r⟩⟩)
 . exact⟨by omega,F,s,r,by simp [aw,dh,ah]⟩
def plA(n:Nat)(A:List Arc):List Pl:=(zO A.length).flatMap fun(i:Nat)=>[⟨i,0,9,(A.getD i default).s,0,n⟩,⟨i,1,9,(A.getD i default).t,0,n⟩,⟨i,2,10,(A.getD i default).w,0,2147483648⟩]
theorem flat3_at{b:Type}(f k l:Nat->b): ∀(n j:Nat),j<n->((zO n).flatMap fun i=>[f i,k i,l i])[3*j]? =some (f j)/\((zO n).flatMap fun i=>[f i,k i,l i])[3*j+1]? =some (k j)/\((zO n).flatMap fun i=>[f i,k i,l i])[3*j+2]? =some (l j):=by
 intro n
 induction n with
 |zero=>intro j c;omega| succ n d=>
   intro j c;have a:((zO n).flatMap fun i=>[f i,k i,l i]).length=3*n:=(by rw [XC];simp [XD];omega);rw [XL,Xo];by_cases h:j<n
   . rw [Xk (by omega),Xk (by omega),Xk (by omega)];exact d j h
   . have:j=n:=(by omega);subst this;rw [Xj (by omega),Xj (by omega),Xj (by omega),a];simp
theorem plA_len(n:Nat)(A:List Arc):(plA n A).length=3*A.length:=by unfold plA;rw [XC];simp [XD];omega
theorem arcs_iter {h0:Hp} (d:h0.t.Sized h0.n) {W X m:Value} {b n:Nat} {A:List Arc} (I:Row h0 b [.int .i64 n,W,X,m] 1) (K:av h0 3 dw m A) (L:A.length<1000):
 Iter zM 260 [] [ptrTo b] h0 (fun c=>c=b\/aq m c) ((plA n A).map fun p=>[.agg ⟨jW p⟩]):=by
 refine tD fun Y J Z j h F s t=>?_;refine enter (n:=44) (rs:=[]) rfl Tryz.e260 rfl rfl rfl (lbt rfl) ?_;have l0:=s.load d (I.load1 (o:=0) rfl) (.inl rfl);have l3:=s.load d (I.load1 (o:=3) rfl) (.inl rfl);simp only [BZ,l0,l3,K.lenq,seval];refine aV (fun(i:Nat) k h=>i<=A.length/\ ∃F,ItS h0 (fun c=>c=b\/aq m c) h F/\J (3*i) h F/\k 0=.func (.yield Y) #[] #[]/\k 3=.int .i64 n/\k 11=m/\k 12=.int .i64 A.length/\k 13=.int .i64 i) (fun i=>A.length-i) ?_ 0 _ _ ?_
 . intro i ih k h ⟨hi,F,s,t,r0,r3,r11,r12,r13⟩;by_cases hlt:i<A.length
   . have u:=s.sl d K (fun b h=>.inr h);obtain⟨c,o,q,y⟩:=u.ix (kd:=.i64) iR hlt;have S:=Si s.ok;have w:am .i64 ((i:Int)+1)=((i+1:Nat):Int):=(by rw [wrap64]<;>omega);have w1:am .i64 1=1:=rfl;have w2:am .i64 2=2:=rfl;have w3:am .i64 3=3:=rfl;have z:=flat3_at (fun(i:Nat)=>(⟨i,0,9,(A.getD i default).s,0,n⟩:Pl)) (fun(i:Nat)=>⟨i,1,9,(A.getD i default).t,0,n⟩) (fun(i:Nat)=>⟨i,2,10,(A.getD i default).w,0,2147483648⟩) A.length i hlt;have B:A.getD i default=A[i]:=(by simp [Xd,hlt]);simp only [BZ,r11,r12,r13,az,hlt,q,y,seval];refine ac ay S ?_;clear S;intro h C S M;simp only [BZ,dw,seval];refine aC (S.store (i:=0) rfl ?_ ?_ rfl rfl ?_ ono) ?_
     . exact(by exact Tryz.t139.2.1)
     . exact(by intro x e;cases e)
     . exact lbt rfl
     clear S;rintro h ⟨S,f⟩;clear f;simp only [LC,ae,lay,Xb,Xc,seval]at S;simp only [BZ,r3,S.ld (b:=C) (o:=0) m0 rfl,S.ld (b:=C) (o:=1) m0 rfl,S.ld (b:=C) (o:=2) m0 rfl,seval];refine ac (bV (by exact Tryz.t335.1) (by exact Tryz.e295E) (by decide) (by rfl)) S ?_;clear S;intro h g S N;simp only [LC,a9,bQ,ae,Xi,Xf,Xg,Xn,seval]at S;simp only [BZ,Xl,seval];have O:g∉F:=fun l=>(by have:=s.lt _ l;omega);have R:Row h g _ 1:=S.row m0;have ad:=R.lt S.ok;rw [cE];simp only [BZ,Xl,S.lds (b:=g) (o:=0) (n:=6) m0 (lbt rfl),seval];refine ac ay S ?_;clear S;intro h b7 S P;simp only [BZ,Xx,Xr,Xy,seval];refine aC (S.store (i:=0) rfl ?_ ?_ rfl rfl ?_ ono) ?_
     . exact(by exact Tryz.t295.2.1)
     . exact(by intro x e;cases e)
     . exact lbt rfl
     clear S;rintro h ⟨S,f⟩;clear f;simp only [LC,ae,lay,Xb,Xc,seval]at S;simp only [BZ,r0,S.lds (b:=b7) (o:=0) (n:=6) m0 (lbt rfl),seval];have R:Row h g _ 1:=S.row m1;refine cZ j (s.gr S.gr) (j.gr _ _ _ _ t S.gr) (i:=3*i) (by rw [Xq,show(plA n A)[3*i]? =_ from z.1,B];simp [jW]) ?_ ?_ ?_
     . intro h2 F2 a Q D E;have R0:=R;replace R:Row h2 g _ 1:=R.of_get (D.get _ (R.lt S.ok) O);have G:g∉F2:=fun l=>by
        rcases E _ l with l|l
        . exact O l
        . have:=R0.lt S.ok;omega
       have S:=Si Q.ok;simp only [BZ,w1,seval];rw [cE];simp only [BZ,Xl,R.load (o:=6) (n:=6) (lbt rfl),seval];refine ac ay S ?_;clear S;intro h b8 S T;simp only [BZ,XV,Xx,Xr,Xy,seval];refine aC (S.store (i:=0) rfl ?_ ?_ rfl rfl ?_ ono) ?_
       . exact(by exact Tryz.t295.2.1)
       . exact(by intro x e;cases e)
       . exact lbt rfl
       clear S;rintro h ⟨S,f⟩;clear f;simp only [LC,ae,lay,Xb,Xc,seval]at S;simp only [BZ,r0,S.lds (b:=b8) (o:=0) (n:=6) m0 (lbt rfl),seval];replace R:=R.gr S.gr;refine cZ j (Q.gr S.gr) (j.gr _ _ _ _ a S.gr) (i:=3*i+1) (by rw [Xq,show(plA n A)[3*i+1]? =_ from z.2.1,B];simp [jW]) ?_ ?_ ?_
       . intro h3 F3 a U H af;replace R:Row h3 g _ 1:=R.of_get (H.get _ (R.lt S.ok) G);have S:=Si U.ok;simp only [BZ,w2,seval];rw [cE];simp only [BZ,Xl,R.load (o:=12) (n:=6) (lbt rfl),seval];refine ac ay S ?_;clear S;intro h b9 S V;simp only [BZ,XV,Xx,Xr,Xy,seval];refine aC (S.store (i:=0) rfl ?_ ?_ rfl rfl ?_ ono) ?_
         . exact(by exact Tryz.t295.2.1)
         . exact(by intro x e;cases e)
         . exact lbt rfl
         clear S;rintro h ⟨S,f⟩;clear f;simp only [LC,ae,lay,Xb,Xc,seval]at S;simp only [BZ,r0,S.lds (b:=b9) (o:=0) (n:=6) m0 (lbt rfl),seval];refine cZ j (U.gr S.gr) (j.gr _ _ _ _ a S.gr) (i:=3*i+2) (by rw [Xq,show(plA n A)[3*i+2]? =_ from z.2.2,B];simp [jW]) ?_ ?_ ?_
         . intro h4 F4 a s4 ai ak;simp only [BZ,w3,seval];rw [cE];simp only [BZ,r13,w,seval];exact ih (i+1) _ _ (by omega) ⟨by omega,F4,s4,a,by simp [aw,r0,r3,r11,r12]⟩
         . intro r a _;simp only [BZ,seval];exact gy rfl ⟨rfl,.inr (.inl ⟨_,rfl,a⟩)⟩
         . intro v r a;simp only [BZ];exact ku (cJ ⟨rfl,.inr (.inr ⟨_,rfl,a⟩)⟩)
       . intro r a _;simp only [BZ,seval];exact gy rfl ⟨rfl,.inr (.inl ⟨_,rfl,a⟩)⟩
       . intro v r a;simp only [BZ];exact ku (cJ ⟨rfl,.inr (.inr ⟨_,rfl,a⟩)⟩)
     . intro r a _;simp only [BZ,seval];exact gy rfl ⟨rfl,.inr (.inl ⟨_,rfl,a⟩)⟩
     . intro v r a;simp only [BZ];exact ku (cJ ⟨rfl,.inr (.inr ⟨_,rfl,a⟩)⟩)
   . simp only [BZ,r12,r13,az,hlt,seval];have:i=A.length:=(by omega);subst this;exact cy (cJ ⟨rfl,_,rfl,rfl,.inl ⟨_,F,rfl,by simpa [plA_len]using t⟩⟩)
 . exact⟨by omega,F,s,t,by simp [aw,dh]⟩
theorem look1_ok{h0:Hp}(e:h0.t.Sized h0.n){c:Gra}(a:jY c){f i j:Value}{b:Nat}(k:Row h0 b [.int .i64 c.nodes,f,i,j] 1):Ret zM 225 [ptrTo b] h0 fun v d=>Gr h0 d/\ot 0 h0.n v d:=by have S:=Si e;have l:=a.n1;have m:=a.n2;refine aa (n:=5) (rs:=[.tmp 1]) rfl Tryz.e225 rfl rfl rfl (lbt rfl) ?_;simp only [BZ,k.load1 (o:=0) rfl,seval];refine step_ret (one_ok S.ok (by omega) (by omega)) ?_;intro v h ⟨g,t⟩;replace S:=S.call g;clear g;simp only [BZ,ab,seval];exact⟨S.gr,t⟩
theorem look2_ok{h0:Hp}(j:h0.t.Sized h0.n){a:Gra}(c:jY a){d e f:Value}(k:dS h0 d e f a){b:Nat}(l:Row h0 b [.int .i64 a.nodes,d,e,f] 1):Ret zM 227 [ptrTo b] h0 fun v i=>Gr h0 i/\ot 0 h0.n v i:=by have S:=Si j;refine aa (n:=4) (rs:=[.tmp 1]) rfl Tryz.e227 rfl rfl rfl (lbt rfl) ?_;simp only [BZ,l.load (o:=0) (n:=4) (lbt rfl),seval];refine step_ret (shapes_ok S.ok c k) ?_;intro v h ⟨g,t⟩;replace S:=S.call g;clear g;simp only [BZ,ab,seval];exact⟨S.gr,t⟩
theorem look4_ok{h0:Hp}(j:h0.t.Sized h0.n){a:Gra}(c:jY a){d e f:Value}(k:dS h0 d e f a){b:Nat}(l:Row h0 b [.int .i64 a.nodes,d,e,f] 1):Ret zM 231 [ptrTo b] h0 fun v i=>Gr h0 i/\ot 0 h0.n v i:=by have S:=Si j;have m:=c.many;refine aa (n:=6) (rs:=[.tmp 1]) rfl Tryz.e231 rfl rfl rfl (lbt rfl) ?_;simp only [BZ,l.load1 (o:=3) rfl,k.A.lenq,seval];refine step_ret (one_ok S.ok (by omega) (by omega)) ?_;intro v h ⟨g,t⟩;replace S:=S.call g;clear g;simp only [BZ,ab,seval];exact⟨S.gr,t⟩
theorem look3_ok{h0:Hp}(w:h0.t.Sized h0.n){d:Gra}(a:jY d){k l r:Value}(s:dS h0 k l r d){b m:Nat}(x: ∀c,aq k c->c<m)(y: ∀c,aq l c->c<m)(z:Row h0 b [.int .i64 d.nodes,k,l,r] 1):Ret zM 229 [ptrTo b] h0 fun v t=>Gr h0 t/\ot m h0.n v t:=by
 have S:=Si w;have A:=a.n2;have B:=a.lX;have C:=a.lY;refine aa (n:=4) (rs:=[.tmp 1]) rfl Tryz.e229 rfl rfl rfl (lbt rfl) ?_;simp only [BZ,z.load (o:=0) (n:=4) (lbt rfl),seval];refine step_ret (nodes_ok S.ok) ?_;intro v h ⟨g,b2,e,q2,R⟩;replace S:=S.call g;clear g;subst e;simp only [BZ,ab,seval];refine⟨S.gr,_,#[],#[ptrTo b2],_,_,rfl,CQ S.ok R (s.X.gr S.gr) (s.Y.gr S.gr) (by omega) (by omega),fun p q=>?_,fun c f=>?_⟩
 . unfold plN at q;simp only [List.mem_flatMap,XO,XI,List.not_mem_nil,or_false]at q;obtain⟨i,u,rfl|rfl⟩:=q
   . have:=a.cX d.X[i] (XA u);simp only [Xd,Xp u,XK];omega
   . have j:i<d.Y.length:=(by omega);have:=a.cY d.Y[i] (XA j);simp only [Xd,Xp j,XK];omega
 . rcases f with rfl|f|f
   . exact .inr q2
   . exact .inl (x c f)
   . exact .inl (y c f)
theorem look5_ok{h0:Hp}(t:h0.t.Sized h0.n){d:Gra}(a:jY d){l m f:Value}(u:dS h0 l m f d){b q:Nat}(w: ∀c,aq f c->c<q)(x:Row h0 b [.int .i64 d.nodes,l,m,f] 1):Ret zM 232 [ptrTo b] h0 fun v r=>Gr h0 r/\ot q h0.n v r:=by
 have S:=Si t;have y:=a.many;refine aa (n:=4) (rs:=[.tmp 1]) rfl Tryz.e232 rfl rfl rfl (lbt rfl) ?_;simp only [BZ,x.load (o:=0) (n:=4) (lbt rfl),seval];refine step_ret (arcs_ok S.ok) ?_;intro v h ⟨g,b2,e,q2,R⟩;replace S:=S.call g;clear g;subst e;simp only [BZ,ab,seval];refine⟨S.gr,_,#[],#[ptrTo b2],_,_,rfl,arcs_iter S.ok R (u.A.gr S.gr) (by omega),fun p j=>?_,fun c k=>?_⟩
 . unfold plA at j;simp only [List.mem_flatMap,XO,XI,List.not_mem_nil,or_false]at j;obtain⟨i,s,h⟩:=j;have:=a.arcs d.arcs[i] (XA s);simp only [Xd,Xp s,XK]at h;rcases h with rfl|rfl|rfl<;>(simp only [];omega)
 . rcases k with rfl|k
   . exact .inr q2
   . exact .inl (w c k)
theorem look_ok {h0:Hp} (z:h0.t.Sized h0.n) {O:Gra} (l:jY O) {Z vy va:Value} (A:dS h0 Z vy va O):Ret zM 170 [kW O Z vy va] h0 fun v f=>Gr h0 f:=by
 have S:=Si z;refine aa (n:=44) (rs:=[]) rfl Tryz.e170 rfl rfl rfl (lbt rfl) ?_;simp only [BZ,kW,seval];refine ac (bg (by intro x e;cases e)) S ?_;clear S;intro h b S ak;simp only [ae]at S;simp only [BZ,seval];refine ac (bV (by exact Tryz.t293.1) (by exact Tryz.e291E) (by decide) (by rfl)) S ?_;clear S;intro h bs S ad;simp only [LC,a9,bQ,ae,Xi,Xf,Xg,Xn,seval]at S;simp only [BZ,Xl,seval];have P: ∀i,i<5-> ∃g a c,[Value.func (.func 225) #[] #[.pointer (some ⟨b,0,none⟩)],.func (.func 227) #[] #[.pointer (some ⟨b,0,none⟩)],.func (.func 229) #[] #[.pointer (some ⟨b,0,none⟩)],.func (.func 231) #[] #[.pointer (some ⟨b,0,none⟩)],.func (.func 232) #[] #[.pointer (some ⟨b,0,none⟩)]][i]? =some (.func (.func g) a c)/\
  ∀f,Gr h f->Ret zM g (a.toList++c.toList) f fun v k=>Gr f k/\ot h0.n f.n v k:=by
  intro i hi;have s:=S.row (b:=b) m1;have r:=A.gr S.gr;have Q: ∀f v k,Gr f k/\ot 0 f.n v k->Gr f k/\ot h0.n f.n v k:=by rintro f v k ⟨a,R,a1,T,I,D,b1,b2,b3,B⟩;exact⟨a,R,a1,T,I,D,b1,b2,b3,fun c t=>(B c t).elim (fun h=>by omega) .inr⟩
  match i,hi with
  |0,_=>exact⟨_,_,_,rfl,fun f g=>rq (look1_ok g.ok l (s.gr g)) (Q f)⟩
  |1,_=>exact⟨_,_,_,rfl,fun f g=>rq (look2_ok g.ok l (r.gr g) (s.gr g)) (Q f)⟩
  |2,_=>exact⟨_,_,_,rfl,fun f g=>look3_ok g.ok l (r.gr g) (fun c t=>A.X.lt z t) (fun c t=>A.Y.lt z t) (s.gr g)⟩
  |3,_=>exact⟨_,_,_,rfl,fun f g=>rq (look4_ok g.ok l (r.gr g) (s.gr g)) (Q f)⟩
  |4,_=>exact⟨_,_,_,rfl,fun f g=>look5_ok g.ok l (r.gr g) (fun c t=>A.A.lt z t) (s.gr g)⟩
 have Rs:=S.row (b:=bs) m0;have g0:=S.gr;have C:=S.ok;clear S A z;revert P Rs;generalize [Value.func (.func 225) #[] #[.pointer (some ⟨b,0,none⟩)],.func (.func 227) #[] #[.pointer (some ⟨b,0,none⟩)],.func (.func 229) #[] #[.pointer (some ⟨b,0,none⟩)],.func (.func 231) #[] #[.pointer (some ⟨b,0,none⟩)],.func (.func 232) #[] #[.pointer (some ⟨b,0,none⟩)]]=fs;intro P Rs;rename Hp=>E;have al:=Rs.lt C;have an:=g0.n;have S:=Si C;refine qw (fun(i:Nat) J d f=>i<=5/\ ∃j:List Nat,d=j.map qy/\St NoM E f (dB j) []/\J 10=.slice (some ⟨bs,0,none⟩) 5 5/\J 11=.int .i64 5/\J 12=.int .i64 i) (fun i=>5-i) ?_ 0 _ _ _ ?_
 . clear S;intro i ih J d h ⟨hi,j,K,S,r10,r11,r12⟩;have w:am .i64 ((i:Int)+1)=((i+1:Nat):Int):=(by rw [wrap64]<;>omega);by_cases hlt:i<5
   . obtain⟨g,a,c,U,s⟩:=P i hlt;have Rl:=(Rs.gr S.gr).load1 U;have m:(i:Int)<5:=(by omega);simp only [BZ,r10,r11,r12,m,hlt,Rl,seval];refine ac ay S ?_;clear S;intro h b2 S af;simp only [BZ,seval];refine aC (aA S (i:=0) rfl ?_ ?_ ?_ ono) ?_
     . exact(by simp only [FA0])
     . exact(by exact bR)
     . exact Xe (lbt rfl)
     clear S;rintro h ⟨S,V⟩;clear V;simp only [LC,ae,lay,Xb,Xc,seval]at S;simp only [BZ,seval];replace S:=S.drop1;have kl: ∀b∈keys (dB j) [],b<h.n:=fun b q=>S.key_lt q;refine step_ret (s _ S.gr) ?_;intro v h ⟨g,R,T,post,I,D,e,it,hps,hD⟩;replace S:=S.call g;clear g;subst e;simp only [BZ];refine hZ S (g:=R) (a:=T) (b:=post) (by simp [bA,aw]) rfl rfl ?_;intro M G H u aL a0 g2;obtain⟨X,hX,u⟩: ∃X:fu,X=_/\St NoM E M ((H,.loop X)::(G,.dfr)::dB j) []:=⟨_,rfl,u⟩;have hJ:Yld zM H (fun _ f F=>St NoM E f ((H,.loop X)::(G,.dfr)::dB j) []/\F=keys ((H,.loop X)::(G,.dfr)::dB j) []) (fun _ _=>False) (I.map fun p=>[.agg ⟨jW p⟩]):=by
      refine⟨?_,?_,fun _ _ h=>h.elim,?_⟩
      . rintro i h F ⟨S,rfl⟩;exact⟨S.ok,fun b q=>S.key_lt q⟩
      . rintro i h F f ⟨S,rfl⟩ g;exact⟨S.call g,rfl⟩
      . rintro i x h F hx ⟨S,rfl⟩;obtain⟨p,hp,rfl⟩: ∃p∈I,x=[.agg ⟨jW p⟩]:=(by rw [Xq,Option.map_eq_some_iff]at hx;obtain⟨p,E,M⟩:=hx;exact⟨p,Xh E,M.symm⟩);obtain⟨p1,p2⟩:=hps p hp;have W: ¬p.n<p.lo:=(by omega);have Y: ¬p.hi<=p.n:=(by omega);subst hX;refine ia (S.get m0) (by rw [Tryz.e170];rfl) rfl ?_;have S0:=S;replace S:=S.base;simp only [BZ];refine ac ay S ?_;clear S;intro h B S ai;simp only [BZ,jW,seval];refine aC (S.store (i:=0) rfl ?_ ?_ rfl rfl ?_ ono) ?_
        . exact(by exact Tryz.t295.2.1)
        . exact(by intro x e;cases e)
        . exact lbt rfl
        clear S;rintro h ⟨S,V⟩;clear V;simp only [LC,ae,lay,Xb,Xc,seval]at S;simp only [BZ];refine fU S (i:=1) rfl rfl rfl rfl rfl ?_;clear S;intro h S;simp only [BZ,W,Y,S.ld (b:=B) (o:=3) m0 rfl,S.ld (b:=B) (o:=4) m0 rfl,S.ld (b:=B) (o:=5) m0 rfl,seval];refine eg S (i:=1) rfl ?_;clear S;intro h S;exact .inl ⟨rfl,_,⟨S0.rebase S.drop1,rfl⟩,S.fr,S.drop1.key_new⟩
     refine eH (yX it hJ (h:=M) (F:=keys ((H,.loop _)::(G,.dfr)::dB j) []) g2.fr (fun b q hlt=>?_) ⟨u,rfl⟩) fun o rc f y=>jn y ?_
     . intro K;have N:=u.key_own q;rcases hD b K with hh|hh
       . rcases N with N|N
         . omega
         . exact N
       . rcases List.mem_cons.1 q with rfl|q
         . omega
         . rcases List.mem_cons.1 q with rfl|q
           . omega
           . have:=kl b q;omega
     . rintro F ⟨S,rfl⟩;subst hX;refine⟨_,S.get m0,Nat.zero_ne_one,?_⟩;replace S:=S.dead;show Run _ _ _ _ _ _ _ _;simp only [BZ,r12,w,seval];exact ih (i+1) _ _ _ (by omega) ⟨by omega,G::j,by rw [K];rfl,S,by simp [aw,r10,r11]⟩
   . have m: ¬(i:Int)<5:=(by omega);simp only [BZ,r11,r12,m,seval];subst K;refine cy (gu j h (L:=[]) (by rw [XH];exact S) fun f u=>⟨rfl,_,rfl,g0.trans u.gr⟩)
 . exact⟨by omega,[],rfl,S,by simp [aw]⟩
end Go.Ab
end
section
namespace Go.Ab
theorem av.form{d:Type}{h:Hp}{k:Nat}{enc:d->List Value}{v:Value}{xs:List d}(s:av h k enc v xs): ∃a n c,v=.slice a n c:=by rcases s with⟨rfl,_⟩|⟨b,o,s,c,rfl,_⟩<;>exact⟨_,_,_,rfl⟩
section
variable{M:Nat->Prop}{h0 h:Hp}{E:Env}{L:List (Nat×Ob)}{G:List GL}
def WrK{a:Type}(h:Hp)(k:Nat)(enc:a->List Value)(w:Value)(l:List a):Prop:=l≠ []-> ∃b,w=.slice (some ⟨b,0,some k⟩) l.length l.length/\Row h b (l.flatMap enc) 1
theorem WrK.mo{a:Type}{M:Nat->Prop}{h c:Hp}{k:Nat}{enc:a->List Value}{w:Value}{l:List a}(r:WrK h k enc w l)(g:Mo M h c)(d: ∀b,aq w b-> ¬M b):WrK c k enc w l:=
 fun f=>by obtain⟨b,e,k⟩:=r f;exact⟨b,e,g.has (o:=.row _ 1) k (d b (by rw [e];rfl))⟩
theorem St.cloneW{m:Type}{enc:m->List Value}{ys:List m}(S:St M h0 h L G){t i e:TypeId}{d k md:Nat}{A:List Value}{b:Nat}{x:Value}(o:E.und t=some (.slice e))(p:eK E e d k A)(q:0<d)
 (r:d9 E i=some false) (s:av h k enc x ys) (f: ∀x,(enc x).length=k) (u:0<k) (g:(ys.length*k)*(d+1)<=70368744177664) {ts:List TypeId}
 (v:Row h b [] md):
 ∃a v',dG E h (t::i::ts) (.slice (some ⟨b,0,none⟩) 0 0) x=some (a,v')/\St M h0 a L G/\Gr h a/\av a k enc v' ys/\(∀c,aq v' c->c=b\/h.n<=c)/\WrK a k enc v' ys:=by
 obtain⟨a,v',w,B,C,D,F⟩:=S.cloneSl (enc:=enc) (xs:=[]) o p q r s f u (by simpa using g) (ts:=ts) (b:=b) (md:=md) (by simpa using v);refine⟨a,v',w,B,C,by simpa using D,F,fun j=>?_⟩;obtain⟨H,I,y,J⟩:=S.clone o p q r s.src (ct f ys).symm (n:=0) (by simp) u (by rw [ct f];simpa using g) (ts:=ts) v;have l:dG E h (t::i::ts) (.slice (some ⟨b,0,none⟩) 0 0) x=some (a,v'):=w;rw [l]at y;cases y;rcases J with⟨K,_⟩|⟨z,N,T⟩
 . exact absurd (List.length_eq_zero_iff.1 K) j
 . refine⟨z,by rw [N,Xf],?_⟩;have:=T.row (b:=z) m0;simpa using this
end
end Go.Ab

end
section
namespace Go.Ab
open Go.Proofs
set_option maxRecDepth 10000
theorem check1_ok{h0:Hp}(a:h0.t.Sized h0.n){b:Nat}:fZ zM 169 [ptrTo b] none h0 fun o c d=>(∃v,o=.ret v)/\c=none/\Gr h0 d:=by have S:=Si a;refine enter (n:=17) (rs:=[]) rfl Tryz.e169 rfl rfl rfl (lbt rfl) ?_;simp only [BZ,seval];exact cy (cJ ⟨rfl,_,rfl,⟨_,rfl⟩,rfl,S.gr⟩)
theorem check_ok{h0:Hp}(p:h0.t.Sized h0.n){c:Gra}(d:jY c){f j k:Value}(q:dS h0 f j k c):aN zM 80 [kW c f j k] h0 .nilIface:=by
 have S:=Si p;refine aa (n:=6) (rs:=[.cell 2 78]) rfl Tryz.e80 rfl rfl rfl (lbt rfl) ?_;simp only [BZ,kW,seval];refine ac (bg (by intro x e;cases e)) S ?_;clear S;intro h b S r;simp only [ae]at S;simp only [BZ];refine ac ay S ?_;clear S;intro h s S m;simp only [BZ,S.lds (b:=b) (o:=0) (n:=4) m1 (lbt rfl),seval];refine step_ret (look_ok S.ok d (q.gr S.gr)) ?_;intro v h g;replace S:=S.call g;clear g;simp only [BZ,seval];refine aC (aA S (i:=0) rfl ?_ ?_ ?_ ono) ?_
 . exact(by simp only [FA0])
 . exact(by exact fl_nili)
 . exact Xe (lbt rfl)
 clear S;rintro h ⟨S,t⟩;clear t;simp only [LC,ae,lay,Xb,Xc,seval]at S;simp only [BZ];refine dJ (un_fn (eH (check1_ok S.ok) fun o u w ⟨a,b,g⟩=>⟨a,b,cJ ⟨rfl,?_⟩⟩));replace S:=S.call g;have l:=S.ld (b:=s) (o:=0) m0 rfl;exact⟨_,tP (by decide) (by simp only [aD,ah,seval];exact js Tryz.t78.1 l),rfl,S.gr⟩
theorem rL{h0:Hp}(i:h0.t.Sized h0.n){v:Value}{xs:List Int}(j:av h0 1 (encI .i64) v xs)(q:xs.length<1000000):Ret zM 159 [v] h0 fun r a=>Gr h0 a/\av a 1 (encI .i64) r xs/\ ∀c,aq r c->h0.n<=c:=by
 have S:=Si i;rcases j with⟨rfl,rfl⟩|⟨b,o,s,c,rfl,k,l⟩
 . refine aa (n:=8) (rs:=[.tmp 2]) rfl Tryz.e159 rfl rfl rfl (lbt rfl) ?_;simp only [BZ,ab,seval];exact⟨S.gr,.inl ⟨rfl,rfl⟩,fun c d=>d.elim⟩
 . refine aa (n:=8) (rs:=[.tmp 2]) rfl Tryz.e159 rfl rfl rfl (lbt rfl) ?_;simp only [BZ,seval];refine ac (bV (by exact Tryz.t23.1) (by exact Tryz.e2E) (by decide) (by rfl)) S ?_;clear S;intro h t S f;simp only [LC,a9,bQ,ae,Xi,Xf,Xg,Xn,seval]at S;simp only [BZ,seval];refine dP (S.cloneSl (enc:=encI .i64) (xs:=[]) Tryz.t23.1 Tryz.e2E (by decide) Tryz.t23.2.2.2.2.2 (.inr ⟨b,o,s,c,rfl,k,S.old l (fun h=>h)⟩) (fun x=>rfl) (by decide) (by simp only [List.length_nil,Xf];omega) (S.row m0)) ?_;rintro a v ⟨m,g,p,d⟩;simp only [BZ,ab,seval];refine⟨m.gr,by simpa using p,fun c h=>(d c h).elim (fun e=>by omega) (fun e=>Xm S.fr.n e)⟩
theorem BE{h0:Hp}(i:h0.t.Sized h0.n){v:Value}{xs:List Arc}(j:av h0 3 (dw) v xs)(q:xs.length<1000000):Ret zM 160 [v] h0 fun r a=>Gr h0 a/\av a 3 (dw) r xs/\(∀c,aq r c->h0.n<=c)/\WrK a 3 dw r xs:=by
 have S:=Si i;rcases j with⟨rfl,rfl⟩|⟨b,o,s,c,rfl,k,l⟩
 . refine aa (n:=8) (rs:=[.tmp 2]) rfl Tryz.e160 rfl rfl rfl (lbt rfl) ?_;simp only [BZ,ab,seval];exact⟨S.gr,.inl ⟨rfl,rfl⟩,fun c d=>d.elim,fun h=>absurd rfl h⟩
 . refine aa (n:=8) (rs:=[.tmp 2]) rfl Tryz.e160 rfl rfl rfl (lbt rfl) ?_;simp only [BZ,seval];refine ac (bV (by exact Tryz.t58.1) (by exact Tryz.e139E) (by decide) (by rfl)) S ?_;clear S;intro h t S f;simp only [LC,a9,bQ,ae,Xi,Xf,Xg,Xn,seval]at S;simp only [BZ,seval];refine dP (S.cloneW (enc:=dw) (ys:=xs) Tryz.t58.1 Tryz.e139E (by decide) Tryz.t58.2.2.2.2.2 (.inr ⟨b,o,s,c,rfl,k,S.old l (fun h=>h)⟩) (fun x=>rfl) (by decide) (by omega) (S.row m0)) ?_;rintro a v ⟨m,g,p,d,w⟩;simp only [BZ,ab,seval];exact⟨m.gr,p,fun c h=>(d c h).elim (fun e=>by omega) (fun e=>Xm S.fr.n e),w⟩
structure oZ(h:Hp)(bd:Nat)(vB:Value)(xs:List Int)(a:Nat):Prop where
 sl:av h 1 (encI .u8) vB xs
 ne: ¬aq vB bd
 few:xs.length<1000000
 at_:a<100000
def drV(xs:List Int)(n a:Nat):Nat:=if h:xs.length=0 then 0 else(am .u8 (xs[a%xs.length]'(Nat.mod_lt _ (by omega))+am .u8 (am .i64 ((a:Int).tdiv (xs.length:Int))))%(n:Int)).toNat
theorem AM{h0:Hp}(B:h0.t.Sized h0.n){d a n:Nat}{f:Value}{xs:List Int}(m:Row h0 d [f,.int .i64 a] 1)(C:oZ h0 d f xs a)(K:1<=n)(D:n<1000):
 Ret zM 78 [ptrTo d,.int .i64 n] h0 fun v w=>Mo (· =d) h0 w/\ ∃r x:Nat,v=.int .i64 r/\r<n/\x<=a+1/\Row w d [f,.int .i64 x] 1/\r=drV xs n a:=by
 have S:=St.init1 B (o:=.row [f,.int .i64 a] 1) m;obtain⟨p,t,L,M⟩:=C;have N:=p.fl;have E:am .i64 ((a:Int)+1)=((a+1:Nat):Int):=by rw [wrap64]<;>omega
 have F:am .i64 (((a+1:Nat):Int)-1)=(a:Int):=by rw [wrap64]<;>omega
 have G: ¬(n:Int)<1:=by omega
 by_cases g:xs.length=0
 . have s:(xs.length:Int)=0:=(by omega);refine aa (n:=55) (rs:=[.tmp 4]) rfl Tryz.e78 rfl rfl rfl (lbt rfl) ?_;simp only [BZ,ab,p.lenq,s,S.ld (b:=d) (o:=0) m0 rfl,seval];exact⟨S.fr,0,a,rfl,by omega,by omega,S.row m0,by unfold drV;rw [dif_pos g]⟩
 . have s: ¬(xs.length:Int)=0:=(by omega);have j:a%xs.length<xs.length:=Nat.mod_lt _ (by omega);have H:(a:Int).tmod (xs.length:Int)=((a%xs.length:Nat):Int):=(by rw [XB (by omega)];exact(Int.natCast_emod _ _).symm);refine aa (n:=55) (rs:=[.tmp 4]) rfl Tryz.e78 rfl rfl rfl (lbt rfl) ?_;simp only [BZ,p.lenq,s,G,E,S.ld (b:=d) (o:=0) m0 rfl,S.ld (b:=d) (o:=1) m0 rfl,seval];refine aC (aA S (i:=0) rfl ?_ ?_ ?_ ono) ?_
   . exact(by simp only [FA0])
   . exact(by exact bR)
   . exact Xe (lbt rfl)
   clear S;rintro h ⟨S,I⟩;clear I;simp only [LC,ae,lay,Xb,Xc,seval]at S;have k:av h 1 (encI .u8) f xs:=p.mo S.fr (fun b J e=>t (e▸J));obtain⟨c,o,l,u⟩:=k.ix (kd:=.i64) (bG _) j;have y:(xs.length:Int)≠0:=s;have A:(n:Int)≠0:=(by omega);simp only [BZ];refine ar (ax rfl) (q:=0) (ps:=[]) (by kernel_rfl) ?_;simp only [BZ,iV,cH,iZ,cls,ab,k.lenq,F,iY y,kT y,iY A,H,l,u,encI,S.ld (b:=d) (o:=0) m0 rfl,S.ld (b:=d) (o:=1) m0 rfl,seval];have m:(am .i64 (am .u8 (xs[a%xs.length]+am .u8 (am .i64 ((a:Int).tdiv (xs.length:Int)))))).tmod (n:Int)=((drV xs n a:Nat):Int)/\drV xs n a<n:=(by unfold drV;rw [dif_neg g];generalize xs[a%xs.length]+am .u8 (am .i64 ((a:Int).tdiv (xs.length:Int)))=z;have O:=wrap8 z;rw [wrap64 (by omega) (by omega),XB (by omega)];have P:=Int.emod_nonneg (am .u8 z) A;have Q:=Int.emod_lt_of_pos (am .u8 z) (show(0:Int)<n by omega);exact⟨by omega,by omega⟩);rw [m.1];exact⟨S.fr,_,a+1,rfl,m.2,XF _,S.row m0,rfl⟩
theorem iF{h0:Hp}(i:h0.t.Sized h0.n){b a n:Nat}{d:Value}{xs:List Int}(j:Row h0 b [d,.int .i64 a] 1)(k:oZ h0 b d xs a)(l:1<=n)(g:n<1000):
 Ret zM 78 [ptrTo b,.int .i64 n] h0 fun v h=>Mo (· =b) h0 h/\ ∃r c:Nat,v=.int .i64 r/\r<n/\c<=a+1/\Row h b [d,.int .i64 c] 1:=
 (AM i j k l g).mono fun v h ⟨f,r,c,e,m,o,p,_⟩=>⟨f,r,c,e,m,o,p⟩
theorem oZ.mo{h g:Hp}{c:Nat}{i:Value}{xs:List Int}{a j:Nat}(d:oZ h c i xs a)(f:Mo (· =c) h g)(k:j<100000):oZ g c i xs j:=
 ⟨d.sl.mo f (fun b l e=>d.ne (e▸l)),d.ne,d.few,k⟩
theorem oZ.gr{h b:Hp}{c:Nat}{e:Value}{xs:List Int}{a:Nat}(d:oZ h c e xs a)(g:Gr h b):oZ b c e xs a:=⟨d.sl.gr g,d.ne,d.few,d.at_⟩
theorem yB{h0:Hp}(y:h0.t.Sized h0.n){d a:Nat}{e:Value}{xs:List Int}(z:Row h0 d [e,.int .i64 a] 1)(s:oZ h0 d e xs a)(D:a+2<100000):
 Ret zM 79 [ptrTo d] h0 fun v t=>Mo (· =d) h0 t/\ ∃r u:Nat,v=.int .i64 r/\r<=2147483647/\u<=a+2/\Row t d [e,.int .i64 u] 1:=by
 have S:=St.init1 y (o:=.row [e,.int .i64 a] 1) z;refine aa (n:=24) (rs:=[.tmp 2]) rfl Tryz.e79 rfl rfl rfl (lbt rfl) ?_;simp only [BZ,seval];refine step_ret (iF (n:=12) S.ok (S.row m0) s (by omega) (by omega)) ?_;rintro v h ⟨f,r,w,rfl,A,B,C⟩;replace S:=S.call1 (i:=0) rfl f (o':=.row _ _) C;have c:oZ h d e xs w:=s.mo f (by omega);simp only [LC]at S;by_cases p:(r:Int)<3
 . simp only [BZ,ab,p,seval];exact⟨S.fr,0,w,rfl,by omega,by omega,S.row m0⟩
 . by_cases q:(r:Int)<10
   . simp only [BZ,p,q,seval];refine step_ret (iF (n:=9) S.ok (S.row m0) c (by omega) (by omega)) ?_;rintro v h ⟨f,b,g,rfl,j,k,l⟩;replace S:=S.call1 (i:=0) rfl f (o':=.row _ _) l;simp only [LC]at S;have m:am .i64 (1+(b:Int))=((1+b:Nat):Int):=(by rw [wrap64]<;>omega);simp only [BZ,ab,m,seval];exact⟨S.fr,1+b,g,rfl,by omega,by omega,S.row m0⟩
   . by_cases x:(r:Int)<11
     . simp only [BZ,p,q,x,seval];refine step_ret (iF (n:=20) S.ok (S.row m0) c (by omega) (by omega)) ?_;rintro v h ⟨f,b,g,rfl,j,k,l⟩;replace S:=S.call1 (i:=0) rfl f (o':=.row _ _) l;simp only [LC]at S;have m:am .i64 (100*(b:Int))=((100*b:Nat):Int):=(by rw [wrap64]<;>omega);simp only [BZ,ab,m,seval];exact⟨S.fr,100*b,g,rfl,by omega,by omega,S.row m0⟩
     . simp only [BZ,p,q,x,seval];refine step_ret (iF (n:=2) S.ok (S.row m0) c (by omega) (by omega)) ?_;rintro v h ⟨f,b,g,rfl,j,k,l⟩;replace S:=S.call1 (i:=0) rfl f (o':=.row _ _) l;simp only [LC]at S;have m:am .i64 (2147483647-(b:Int))=((2147483647-b:Nat):Int):=(by rw [wrap64]<;>omega);simp only [BZ,ab,m,seval];exact⟨S.fr,2147483647-b,g,rfl,by omega,by omega,S.row m0⟩
def ints(l:List Int):List Value:=l.flatMap (encI .i64)
theorem cd(l:List Int):(ints l).length=l.length:=by unfold ints;rw [ct (k:=1) (fun _=>rfl)];omega
theorem ir(l m:List Int):ints (l++m)=ints l++ints m:=by unfold ints;rw [Xo]
theorem raw0_ok {h0:Hp} (ok:h0.t.Sized h0.n) {B:Nat} {V:Value} {xs:List Int} (hr:Row h0 B [V,.int .i64 ((0:Nat):Int)] 1) (P:oZ h0 B V xs 0):
 Ret zM 33 [ptrTo B] h0 fun v h'=>Mo (· =B) h0 h'/\ ∃γ vx vy va,v=kW γ vx vy va/\Good γ/\γ.nodes=1+drV xs 12 0/\dS h' vx vy va γ/\ ∀c,(aq vx c\/aq vy c\/aq va c)->h0.n<=c:=by
 have S:=St.init1 ok (o:=.row [V,.int .i64 ((0:Nat):Int)] 1) hr;have bL:=hr.lt ok;refine aa (n:=117) (rs:=[.cell 2 60]) rfl Tryz.e33 rfl rfl rfl (lbt rfl) ?_;simp only [BZ];refine ac ay S ?_;clear S;intro h L S bx;simp only [BZ,seval];refine step_ret (AM (n:=12) (a:=0) S.ok (S.row m1) (P.mo S.fr (by omega)) (by omega) (by omega)) ?_;rintro v h ⟨f,r,a0,rfl,bP,bT,R,b0⟩;replace S:=S.call1 (i:=1) rfl f (o':=.row _ _) R;simp only [LC]at S;have w1:am .i64 (1+(r:Int))=((1+r:Nat):Int):=by rw [wrap64]<;>omega
 simp only [BZ,w1,seval];refine ac ay S ?_;clear S;intro h s S bB;simp only [BZ,seval];refine aC (S.store (i:=0) rfl ?_ ?_ rfl rfl ?_ ono) ?_
 . exact(by exact Tryz.t7.2.1)
 . exact(by intro x e;cases e)
 . exact lbt rfl
 clear S;rintro h ⟨S,M⟩;clear M;simp only [LC,ae,lay,Xb,Xc,seval]at S;simp only [BZ];replace S:=((S.nilG (k:=3)).nilG (k:=1)).nilG (k:=1);generalize hN:1+r=N at S;refine aV (fun(i:Nat) g h=>i<=N/\ ∃(a:Nat) (D G:Value) (X Y:List Int),a<=1+2*i/\X.length=i/\Y.length=i/\(∀x∈X,-2147483648<=x/\x<=2147483647)/\(∀x∈Y,-2147483648<=x/\x<=2147483647)/\
  St (· =B) h0 h [(s,.row [.int .i64 N,D,G,.slice none 0 0] 1),(L,.row [.int .i64 0,.slice none 0 0,.slice none 0 0,.slice none 0 0] 1),(B,.row [V,.int .i64 a] 1)] [(D,1,ints X),(G,1,ints Y),(.slice none 0 0,3,[])]/\
  g 0=ptrTo B/\g 2=ptrTo L/\g 3=ptrTo s/\g 4=.int .i64 i) (fun i=>N-i) ?_ 0 _ _ ?_
 . clear S;intro i T g h ⟨hi,a,D,G,X,Y,ha,lX,lY,cX,cY,S,r,y,d,r4⟩;by_cases hlt:i<N
   . simp only [BZ,d,r4,az,hlt,S.ld (b:=s) (o:=0) m0 rfl,seval];refine ar (ax rfl) (q:=32) (ps:=[(1,3)]) (by kernel_rfl) ?_;simp only [BZ,cls,r,d,S.ld (b:=s) (o:=1) m0 rfl,seval];refine cu (iF (n:=9) (a:=a) S.ok (S.row m2) (P.mo S.fr (by omega)) (by omega) (by omega)) ?_;rintro v h ⟨f,r1,a1,rfl,b1,bk,R⟩;have hl:=S.leaves (c:=s) m0 f (by omega);replace S:=S.call1 (i:=2) rfl f (o':=.row _ _) R;simp only [LC]at S;have w9:am .i64 ((r1:Int)-3)=(r1:Int)-3:=(by rw [wrap64]<;>omega);simp only [BZ,cls,w9,seval];refine dL (bV (by exact Tryz.t23.1) (by exact Tryz.e2E) (by decide) (by rfl)) S ?_;clear S;intro h W S J ad;simp only [LC,a9,bQ,ae,Xi,Xf,Xg,Xn,seval]at S;simp only [BZ,cls,seval];refine dn_v (S.grow (j:=0) (m:=1) (new:=ints [(r1:Int)-3]) rfl Tryz.t23.1 Tryz.e2E (by decide) Tryz.t23.2.2.2.2.2 (by simp only [aR];rw [S.lds (b:=W) (o:=0) (n:=1*1) m0 (lbt rfl)];rfl) rfl (by decide) rfl (by rw [cd,cd];simp;omega)) ?_;clear S;rintro h an S;simp only [LC]at S;replace S:=S.drop1;rw [<-ir]at S;have fX:Fl an:=(S.gown _ m0).1.fl;simp only [BZ,cls,d,seval];refine df (aA S (i:=0) rfl ?_ ?_ ?_ ono) ?_
     . exact(by simp only [FA0])
     . exact(by assumption)
     . exact Xe (lbt rfl)
     clear S;rintro h ⟨S,M⟩;clear M;simp only [LC,ae,lay,Xb,Xc,seval]at S;simp only [BZ,seval];refine⟨by simp only [aK,aS,aH,aU,aJ,ne_eq,not_false_eq_true,aW,aZ,aT,aM,bA,ca,aD,Xt,d,ah,aB hl,seval],?_⟩;refine ar (ax rfl) (q:=16) (ps:=[(1,3)]) (by kernel_rfl) ?_;simp only [BZ,cls,r,d,S.ld (b:=s) (o:=2) m0 rfl,seval];clear f hl R;refine cu (iF (n:=7) (a:=a1) S.ok (S.row m2) (P.mo S.fr (by omega)) (by omega) (by omega)) ?_;rintro v h ⟨f,H,a2,rfl,bl,bm,R⟩;have hl:=S.leaves (c:=s) m0 f (by omega);replace S:=S.call1 (i:=2) rfl f (o':=.row _ _) R;simp only [LC]at S;simp only [BZ,cls,seval];refine dL (bV (by exact Tryz.t23.1) (by exact Tryz.e2E) (by decide) (by rfl)) S ?_;clear S;intro h W S J ad;simp only [LC,a9,bQ,ae,Xi,Xf,Xg,Xn,seval]at S;simp only [BZ,cls,seval];refine dn_v (S.grow (j:=1) (m:=1) (new:=ints [(H:Int)]) rfl Tryz.t23.1 Tryz.e2E (by decide) Tryz.t23.2.2.2.2.2 (by simp only [aR];rw [S.lds (b:=W) (o:=0) (n:=1*1) m0 (lbt rfl)];rfl) rfl (by decide) rfl (by rw [cd,cd];simp;omega)) ?_;clear S;rintro h aL S;simp only [LC]at S;replace S:=S.drop1;rw [<-ir]at S;have fY:Fl aL:=(S.gown _ m1).1.fl;simp only [BZ,cls,d,seval];refine df (aA S (i:=0) rfl ?_ ?_ ?_ ono) ?_
     . exact(by simp only [FA0])
     . exact(by assumption)
     . exact Xe (lbt rfl)
     clear S;rintro h ⟨S,M⟩;clear M;simp only [LC,ae,lay,Xb,Xc,seval]at S;simp only [BZ,r4,seval];refine⟨by simp only [aK,aS,aH,aU,aJ,ne_eq,not_false_eq_true,aW,aZ,aT,aM,bA,ca,aD,Xt,d,ah,aB hl,seval],?_⟩;have w:am .i64 ((i:Int)+1)=((i+1:Nat):Int):=(by rw [wrap64]<;>omega);simp only [w];exact T (i+1) _ _ (by omega) ⟨by omega,a2,an,aL,_,_,by omega,by simp [lX],by simp [lY],
      fun x F=>(List.mem_append.1 F).elim (cX x) (fun h=>by simp at h;omega),fun x F=>(List.mem_append.1 F).elim (cY x) (fun h=>by simp at h;omega),S,by simp [aw,r,ah,y,d]⟩
   . have bn : i=N:=(by omega);subst bn;simp only [BZ,r,d,r4,az,hlt,S.ld (b:=s) (o:=0) m0 rfl,seval];refine step_ret (iF (n:=9) (a:=a) S.ok (S.row m2) (P.mo S.fr (by omega)) (by omega) (by omega)) ?_;rintro v h ⟨f,H,a1,rfl,bl,bk,R⟩;replace S:=S.call1 (i:=2) rfl f (o':=.row _ _) R;simp only [LC]at S;simp only [BZ,seval];refine rS (fun g h=> ∃(X Y:List Int),X.length=i/\Y.length=i/\(∀x∈X,-2147483648<=x/\x<=2147483647)/\(∀x∈Y,-2147483648<=x/\x<=2147483647)/\
      St (· =B) h0 h [(s,.row [.int .i64 i,D,G,.slice none 0 0] 1),(L,.row [.int .i64 0,.slice none 0 0,.slice none 0 0,.slice none 0 0] 1),(B,.row [V,.int .i64 a1] 1)] [(D,1,ints X),(G,1,ints Y),(.slice none 0 0,3,[])]/\
      g 0=ptrTo B/\g 2=ptrTo L/\g 3=ptrTo s) ?_ ?_ ?_
     . intro _;obtain⟨bX,ix,a8⟩:=S.gset (E:=zM) (t:=2) (j:=0) (i:=0) (kd:=.i64) rfl (by rw [cd];omega) Tryz.t2.2.2.1;have bo:kV (some 1) D (.int .i64 0)=_:=ix;simp only [BZ,d,bo,S.ld (b:=s) (o:=1) m0 rfl,seval];refine aC (a8 _ bR) ?_;clear S a8;intro h S;simp only [LC]at S;obtain⟨bY,iy,ba⟩:=S.gset (E:=zM) (t:=2) (j:=1) (i:=i-1) (kd:=.i64) rfl (by rw [cd];omega) Tryz.t2.2.2.1;have w1:am .i64 ((i:Int)-1)=((i-1:Nat):Int):=(by rw [wrap64]<;>omega);simp only [BZ,d,w1,iy,S.ld (b:=s) (o:=0) m0 rfl,S.ld (b:=s) (o:=2) m0 rfl,seval];refine aC (ba _ bR) ?_;clear S ba;intro h S;simp only [LC]at S;simp only [BZ];have af: ∀(l:List Int) (j:Nat) (z:Int),(ints l).set j (.int .i64 z)=ints (l.set j z):=by
        intro l
        induction l with
        |nil=>intro j z;rfl| cons x l T=>
          intro j z;cases j with
          |zero=>rfl|succ j=>show _::_=_::_;exact congrArg _ (T j z)
       rw [af,af]at S;refine dT ⟨_,_,by simp [lX],by simp [lY],fun x F=>?_,fun x F=>?_,S,by simp [aw,r,ah,y,d]⟩
       . rcases lM F with rfl|⟨j,_,F⟩
         . omega
         . exact cX x (Xh F)
       . rcases lM F with rfl|⟨j,_,F⟩
         . omega
         . exact cY x (Xh F)
     . intro _;simp only [BZ];exact dT ⟨X,Y,lX,lY,cX,cY,S,by simp [aw,r,ah,y,d]⟩
     . clear S r y d r4 lX lY cX cY X Y f R;rintro g h ⟨X,Y,lX,lY,cX,cY,S,r,y,d⟩;have w3:am .i64 (3*(i:Int))=((3*i:Nat):Int):=(by rw [wrap64]<;>omega);have w4:am .i64 (((3*i:Nat):Int)+1)=((3*i+1:Nat):Int):=(by rw [wrap64]<;>omega);simp only [BZ,r,d,w3,w4,S.ld (b:=s) (o:=0) m0 rfl,seval];refine step_ret (iF (n:=3*i+1) (a:=a1) S.ok (S.row m2) (P.mo S.fr (by omega)) (by omega) (by omega)) ?_;rintro v h ⟨f,C,a2,rfl,bp,bm,R⟩;replace S:=S.call1 (i:=2) rfl f (o':=.row _ _) R;simp only [LC]at S;simp only [BZ,r,seval];refine step_ret (iF (n:=3) (a:=a2) S.ok (S.row m2) (P.mo S.fr (by omega)) (by omega) (by omega)) ?_;rintro v h ⟨f,rr,a3,rfl,b4,b5,R⟩;replace S:=S.call1 (i:=2) rfl f (o':=.row _ _) R;simp only [LC]at S;simp only [BZ,seval];generalize decide ((0:Int)<(rr:Int))=ring;refine rK (fun g h=> ∃(a:Nat) (u:Value) (A:List Arc),a<=a3+2*i/\A.length<=i/\(∀x∈A,x.s<i/\x.t<i/\x.w<=2147483647)/\
        St (· =B) h0 h [(s,.row [.int .i64 i,D,G,u] 1),(L,.row [.int .i64 0,.slice none 0 0,.slice none 0 0,.slice none 0 0] 1),(B,.row [V,.int .i64 a] 1)] [(D,1,ints X),(G,1,ints Y),(u,3,A.flatMap dw)]/\
        g 0=ptrTo B/\g 2=ptrTo L/\g 3=ptrTo s/\g 5=.int .i64 C)
        (fun(j:Nat) g h=>j<=i/\ ∃(a:Nat) (u:Value) (A:List Arc),a<=a3+2*j/\A.length<=j/\(∀x∈A,x.s<i/\x.t<i/\x.w<=2147483647)/\
        St (· =B) h0 h [(s,.row [.int .i64 i,D,G,u] 1),(L,.row [.int .i64 0,.slice none 0 0,.slice none 0 0,.slice none 0 0] 1),(B,.row [V,.int .i64 a] 1)] [(D,1,ints X),(G,1,ints Y),(u,3,A.flatMap dw)]/\
        g 0=ptrTo B/\g 2=ptrTo L/\g 3=ptrTo s/\g 5=.int .i64 C/\g 6=.bool ring/\g 7=.int .i64 j) (fun j=>i-j) ?_ ?_ 0 ⟨by omega,a3,_,[],by omega,by simp,by simp,S,by simp [aw,r,ah,y,d]⟩
       . clear S r y d f R T;intro j T g h ⟨hj,a,u,A,ha,lA,O,S,r,y,d,H,r6,r7⟩;have K:(A.flatMap dw).length=A.length*3:=ct iR A;by_cases hlt:j<i/\ring=true
         . obtain⟨hlt,I⟩:=hlt;subst I;have w1:am .i64 ((j:Int)+1)=((j+1:Nat):Int):=(by rw [wrap64]<;>omega);have ci:(i:Int)≠0:=(by omega);have tm:((j+1:Nat):Int).tmod (i:Int)=(((j+1)%i:Nat):Int):=(by rw [XB (by omega)];exact(Int.natCast_emod _ _).symm);simp only [BZ,d,r6,r7,az,hlt,S.ld (b:=s) (o:=0) m0 rfl,seval];refine ar (ax rfl) (q:=2048) (ps:=[(6,9),(1,9)]) (by kernel_rfl) ?_;simp only [BZ,cls,r,d,r7,w1,iY ci,tm,S.ld (b:=s) (o:=0) m0 rfl,S.ld (b:=s) (o:=3) m0 rfl,seval];refine cu (yB (a:=a) S.ok (S.row m2) (P.mo S.fr (by omega)) (by omega)) ?_;rintro v h ⟨f,U,a4,rfl,Z,bq,R⟩;have hl:=S.leaves (c:=s) m0 f (by omega);replace S:=S.call1 (i:=2) rfl f (o':=.row _ _) R;simp only [LC]at S;simp only [BZ,cls,seval];refine dL (bV (by exact Tryz.t58.1) (by exact Tryz.e139E) (by decide) (by rfl)) S ?_;clear S;intro h W S J ad;simp only [LC,a9,bQ,ae,Xi,Xf,Xg,Xn,seval]at S;simp only [BZ,cls,seval];refine dn_v (S.grow (j:=2) (m:=1) (new:=dw ⟨j,(j+1)%i,U⟩) rfl Tryz.t58.1 Tryz.e139E (by decide) Tryz.t58.2.2.2.2.2 (by simp only [aR];rw [S.lds (b:=W) (o:=0) (n:=1*3) m0 (lbt rfl)];rfl) rfl (by decide) rfl (by rw [K,iR];omega)) ?_;clear S;rintro h Q S;simp only [LC]at S;replace S:=S.drop1;have fA:Fl Q:=(S.gown _ m2).1.fl;simp only [BZ,cls,d,seval];refine df (aA S (i:=0) rfl ?_ ?_ ?_ ono) ?_
           . exact(by simp only [FA0])
           . exact(by assumption)
           . exact Xe (lbt rfl)
           clear S;rintro h ⟨S,M⟩;clear M;simp only [LC,ae,lay,Xb,Xc,seval]at S;simp only [BZ,r7,seval];refine⟨by simp only [aK,aS,aH,aU,aJ,ne_eq,not_false_eq_true,aW,aZ,aT,aM,bA,ca,aD,Xt,d,ah,aB hl,seval],?_⟩;simp only [w1];have bb:(j+1)%i<i:=Nat.mod_lt _ (by omega);exact T (j+1) _ _ (by omega) ⟨by omega,a4,Q,A++[⟨j,(j+1)%i,U⟩],by omega,by simp;omega,
            fun x F=>(List.mem_append.1 F).elim (O x) (fun h=>by simp at h;subst h;exact⟨hlt,bb,Z⟩),by rw [Xo];simpa using S,by simp [aw,r,ah,y,d,H,r6]⟩
         . by_cases ai:j<i
           . have I:ring=false:=by cases ring with
              |false=>rfl|true=>exact absurd ⟨ai,rfl⟩ hlt
             subst I;simp only [BZ,d,r6,r7,az,ai,S.ld (b:=s) (o:=0) m0 rfl,seval];exact dT ⟨a,u,A,by omega,by omega,O,S,by simp [aw,r,ah,y,d,H]⟩
           . simp only [BZ,d,r7,az,ai,S.ld (b:=s) (o:=0) m0 rfl,seval];exact dT ⟨a,u,A,by omega,by omega,O,S,by simp [aw,r,ah,y,d,H]⟩
       . clear S r y d f R T;rintro g h ⟨a,u,A,ha,lA,O,S,r,y,d,H⟩;simp only [BZ];refine rK (fun g h=> ∃(a:Nat) (u:Value) (A:List Arc),A.length<=100/\(∀x∈A,x.s<i/\x.t<i/\x.w<=2147483647)/\
          St (· =B) h0 h [(s,.row [.int .i64 i,D,G,u] 1),(L,.row [.int .i64 0,.slice none 0 0,.slice none 0 0,.slice none 0 0] 1),(B,.row [V,.int .i64 a] 1)] [(D,1,ints X),(G,1,ints Y),(u,3,A.flatMap dw)]/\
          g 0=ptrTo B/\g 2=ptrTo L/\g 3=ptrTo s)
          (fun(k:Nat) g h=>k<=C/\ ∃(a:Nat) (u:Value) (A:List Arc),a<=a3+2*i+6*k/\A.length<=i+2*k/\(∀x∈A,x.s<i/\x.t<i/\x.w<=2147483647)/\
          St (· =B) h0 h [(s,.row [.int .i64 i,D,G,u] 1),(L,.row [.int .i64 0,.slice none 0 0,.slice none 0 0,.slice none 0 0] 1),(B,.row [V,.int .i64 a] 1)] [(D,1,ints X),(G,1,ints Y),(u,3,A.flatMap dw)]/\
          g 0=ptrTo B/\g 2=ptrTo L/\g 3=ptrTo s/\g 5=.int .i64 C/\g 8=.int .i64 k) (fun k=>C-k) ?_ ?_ 0 ⟨by omega,a,u,A,by omega,by omega,O,S,by simp [aw,r,ah,y,d,H]⟩
         . clear S r y d H ha lA O a u A;intro k T g h ⟨hk,a,u,A,ha,lA,O,S,r,y,d,H,r8⟩;have K:(A.flatMap dw).length=A.length*3:=ct iR A;by_cases hlt:k<C
           . simp only [BZ,H,r8,az,hlt,seval];refine ar (kI (ord:=[11,0,1,2,3,4,5,6,7,8,9,10,12]) rfl rfl (by simp only [dW,nj,eU,List.getElem?_cons_zero,List.getElem?_cons_succ,List.map_toArray,XG,List.map_nil,cond_true,cond_false,seval];exact rfl)) (q:=1) (ps:=[(0,10),(0,8),(4,7),(0,4)]) (by kernel_rfl) ?_;simp only [BZ,cls,seval];refine dL ay S ?_;clear S;intro h b9 S bE bc;simp only [BZ,cls,r,d,S.ld (b:=s) (o:=0) m1 rfl,seval];refine cu (iF (n:=i) (a:=a) S.ok (S.row m3) (P.mo S.fr (by omega)) (by omega) (by omega)) ?_;rintro v h ⟨f,s1,a4,rfl,be,bq,R⟩;have br:=S.leaves (c:=b9) m0 f (by omega);have bt:=S.leaves (c:=s) m1 f (by omega);replace S:=S.call1 (i:=3) rfl f (o':=.row _ _) R;simp only [LC]at S;simp only [BZ,cls,r,d,S.ld (b:=s) (o:=0) m1 rfl,seval];refine cu (iF (n:=i) (a:=a4) S.ok (S.row m3) (P.mo S.fr (by omega)) (by omega) (by omega)) ?_;rintro v h ⟨f,s2,a5,rfl,bf,b6,R⟩;have bu:=S.leaves (c:=b9) m0 f (by omega);have bv:=S.leaves (c:=s) m1 f (by omega);replace S:=S.call1 (i:=3) rfl f (o':=.row _ _) R;simp only [LC]at S;simp only [BZ,cls,r,seval];refine cu (yB (a:=a5) S.ok (S.row m3) (P.mo S.fr (by omega)) (by omega)) ?_;rintro v h ⟨f,U,a6,rfl,Z,b7,R⟩;have bw:=S.leaves (c:=b9) m0 f (by omega);replace S:=S.call1 (i:=3) rfl f (o':=.row _ _) R;simp only [LC]at S;simp only [BZ,cls,seval];refine df (S.store (i:=0) rfl ?_ ?_ rfl rfl ?_ ono) ?_
             . exact(by exact Tryz.t139.2.1)
             . exact(by intro x e;cases e)
             . exact lbt rfl
             clear S;rintro h ⟨S,M⟩;clear M;simp only [LC,ae,lay,Xb,Xc,seval]at S;simp only [BZ,d,seval];refine⟨by simp only [aK,aS,aH,aU,aJ,ne_eq,not_false_eq_true,aW,aZ,aT,aM,bA,ca,aD,Xt,d,ah,<-bc,aB br,aB bu,aB bv,aB bw,aF bt,seval],?_⟩;simp only [BZ,S.ld (b:=s) (o:=3) m1 rfl,S.lds (b:=b9) (o:=0) (n:=3) m0 (lbt rfl),seval];refine ac (bV (by exact Tryz.t58.1) (by exact Tryz.e139E) (by decide) (by rfl)) S ?_;clear S;intro h W S J;simp only [LC,a9,bQ,ae,Xi,Xf,Xg,Xn,seval]at S;simp only [BZ,seval];refine dP (S.grow (j:=2) (m:=1) (new:=dw ⟨s1,s2,U⟩) rfl Tryz.t58.1 Tryz.e139E (by decide) Tryz.t58.2.2.2.2.2 (by simp only [aR];rw [S.lds (b:=W) (o:=0) (n:=1*3) m0 (lbt rfl)];rfl) rfl (by decide) rfl (by rw [K,iR];omega)) ?_;clear S;rintro h Q S;simp only [LC]at S;replace S:=S.drop1;have fA:Fl Q:=(S.gown _ m2).1.fl;simp only [BZ,d,seval];refine aC (aA S (i:=1) rfl ?_ ?_ ?_ ono) ?_
             . exact(by simp only [FA0])
             . exact(by assumption)
             . exact Xe (lbt rfl)
             clear S;rintro h ⟨S,M⟩;clear M;simp only [LC,ae,lay,Xb,Xc,seval]at S;simp only [BZ,r,seval];refine step_ret (iF (n:=4) (a:=a6) S.ok (S.row m3) (P.mo S.fr (by omega)) (by omega) (by omega)) ?_;rintro v h ⟨f,r9,a7,rfl,b8,cb,R⟩;replace S:=S.call1 (i:=3) rfl f (o':=.row _ _) R;simp only [LC]at S;have w8:am .i64 ((k:Int)+1)=((k+1:Nat):Int):=(by rw [wrap64]<;>omega);have ak:(A.flatMap dw++dw ⟨s1,s2,U⟩).length=A.length*3+3:=(by rw [Xs,K,iR]);have bh: ∀x∈A++[(⟨s1,s2,U⟩:Arc)],x.s<i/\x.t<i/\x.w<=2147483647:=fun x F=>(List.mem_append.1 F).elim (O x) (fun h=>by simp at h;subst h;exact⟨be,bf,Z⟩);by_cases hz:(r9:Int)=0
             . simp only [BZ,d,hz,S.ld (b:=s) (o:=3) m1 rfl,S.ld (b:=b9) (o:=0) m0 rfl,S.ld (b:=b9) (o:=1) m0 rfl,S.ld (b:=b9) (o:=2) m0 rfl,seval];refine ac (bV (by exact Tryz.t58.1) (by exact Tryz.e139E) (by decide) (by rfl)) S ?_;clear S;intro h W S J;simp only [LC,a9,bQ,ae,Xi,Xf,Xg,Xn,seval]at S;simp only [BZ,seval];refine dP (S.grow (j:=2) (m:=1) (new:=dw ⟨s2,s1,U⟩) rfl Tryz.t58.1 Tryz.e139E (by decide) Tryz.t58.2.2.2.2.2 (by simp only [aR];rw [S.lds (b:=W) (o:=0) (n:=1*3) m0 (lbt rfl)];rfl) rfl (by decide) rfl (by rw [ak,iR];omega)) ?_;clear S;rintro h bi S;simp only [LC]at S;replace S:=S.drop1;have fA:Fl bi:=(S.gown _ m2).1.fl;simp only [BZ,d,seval];refine aC (aA S (i:=1) rfl ?_ ?_ ?_ ono) ?_
               . exact(by simp only [FA0])
               . exact(by assumption)
               . exact Xe (lbt rfl)
               clear S;rintro h ⟨S,M⟩;clear M;simp only [LC,ae,lay,Xb,Xc,seval]at S;simp only [BZ,r8,w8,seval];replace S:=S.drop1;exact T (k+1) _ _ (by omega) ⟨by omega,a7,bi,A++[⟨s1,s2,U⟩]++[⟨s2,s1,U⟩],by omega,by simp;omega,
                fun x F=>(List.mem_append.1 F).elim (bh x) (fun h=>by simp at h;subst h;exact⟨bf,be,Z⟩),by rw [Xo,Xo];simpa using S,by simp [aw,r,ah,y,d,H]⟩
             . simp only [BZ,r8,hz,w8,seval];replace S:=S.drop1;exact T (k+1) _ _ (by omega) ⟨by omega,a7,Q,A++[⟨s1,s2,U⟩],by omega,by simp;omega,
                bh,by rw [Xo];simpa using S,by simp [aw,r,ah,y,d,H]⟩
           . simp only [BZ,H,r8,az,hlt,seval];exact dT ⟨a,u,A,by omega,O,S,by simp [aw,r,ah,y,d]⟩
         . clear S r y d H ha lA O a u A;rintro g h ⟨a,u,A,lA,O,S,r,y,d⟩;simp only [BZ,y,d,S.lds (b:=s) (o:=0) (n:=4) m0 (lbt rfl),seval];have fX:Fl D:=(S.gown _ m0).1.fl;have fY:Fl G:=(S.gown _ m1).1.fl;have fA:Fl u:=(S.gown _ m2).1.fl;refine aC (S.store (i:=1) rfl Tryz.t60.2.1 (by intro x e;cases e) rfl (by simp only [ae,Xb,Xc,List.all_cons,List.all_nil,fX.2.1,fY.2.1,fA.2.1,Xt];rfl) (lbt rfl) ono) ?_;clear S;rintro h ⟨S,_⟩;simp only [LC,ae,lay,Xb,Xc,seval]at S;simp only [BZ,ab];refine⟨_,tP (by decide) (by simp only [aD,y,ah,seval];exact bN Tryz.t60.1 Tryz.t60.2.1 (S.lds (b:=L) (o:=0) (n:=4) m1 (lbt rfl))),?_⟩;have al: ∀p∈[(D,1,ints X),(G,1,ints Y),(u,3,A.flatMap dw)],∀c,aq p.1 c->h0.n<=c:=by
            intro p hp c hc;obtain⟨h1,h2⟩:=S.gblk hp hc;rcases h1 with h1|h1
            . exact h1
            . exact absurd (by simp [h1]) h2
           refine⟨S.fr,⟨i,X,Y,A⟩,D,G,u,rfl,⟨show 1<=i by omega,show i<=12 by omega,lX,lY,cX,cY,lA,O⟩,show i=_ by omega,⟨(S.gown _ m0).1.sl rfl (fun _=>rfl) (by decide),(S.gown _ m1).1.sl rfl (fun _=>rfl) (by decide),(S.gown _ m2).1.sl rfl (fun _=>rfl) (by decide)⟩,?_⟩;rintro c (hc|hc|hc)
           . exact al _ m0 c hc
           . exact al _ m1 c hc
           . exact al _ m2 c hc
 . exact⟨by omega,a0,_,_,[],[],by omega,rfl,rfl,by simp,by simp,S,by simp [aw,dh,ah]⟩
theorem raw_ok{h0:Hp}(m:h0.t.Sized h0.n){j:Nat}{l:Value}{xs:List Int}(n:Row h0 j [l,.int .i64 ((0:Nat):Int)] 1)(o:oZ h0 j l xs 0):
 Ret zM 33 [ptrTo j] h0 fun v k=>Mo (· =j) h0 k/\ ∃e g h i,v=kW e g h i/\Good e/\dS k g h i e/\ ∀c,(aq g c\/aq h c\/aq i c)->h0.n<=c:=
 (raw0_ok m n o).mono fun v k ⟨f,e,g,h,i,a,b,_,c,d⟩=>⟨f,e,g,h,i,a,b,c,d⟩
theorem ao{h a:Hp}{b:Nat}(g:Gr h a)(c:b<h.n):leaves h a b=true:=oe (g.get b c)
theorem own_ok{h0:Hp}(T:h0.t.Sized h0.n){u:Gra}(k:jY u){p r l:Value}(G:dS h0 p r l u):
 Ret zM 66 [kW u p r l] h0 fun v E=>Gr h0 E/\ ∃p r l,v=kW u p r l/\dS E p r l u/\(∀c,aq p c\/aq r c\/aq l c->h0.n<=c)/\WrK E 3 dw l u.arcs/\ ∀c,aq l c-> ¬aq p c/\ ¬aq r c:=by
 have S:=Si T;have lX:=k.lX;have lY:=k.lY;have n2:=k.n2;have N:=k.many;refine aa (n:=16) (rs:=[.cell 2 60]) rfl Tryz.e66 rfl rfl rfl (lbt rfl) ?_;simp only [BZ,kW,seval];refine ac (bg (by intro x e;cases e)) S ?_;clear S;intro h b S U;simp only [ae]at S;simp only [BZ];refine ac ay S ?_;clear S;intro h s S O;simp only [BZ];refine ar (ax rfl) (q:=0) (ps:=[(5,7),(2,7),(2,4)]) (by kernel_rfl) ?_;simp only [BZ,cls,S.ld (b:=b) (o:=1) m1 rfl,seval];refine cu (rL S.ok (G.X.gr S.gr) (by omega)) ?_;have V:=S.fr.n;rintro y h ⟨g,f,H⟩;have P:=ao g ((S.row (b:=b) m1).lt S.ok);have I: ∀c,aq y c-> ¬c=b:=fun c d e=>by have:=H c d;have:=(S.row (b:=b) m1).lt S.ok;omega
 have J: ∀c,aq y c-> ¬c=s:=fun c d e=>by have:=H c d;have:=(S.row (b:=s) m0).lt S.ok;omega
 replace S:=S.call g;simp only [BZ,cls,S.ld (b:=b) (o:=2) m1 rfl,seval];refine cu (rL S.ok (G.Y.gr S.gr) (by omega)) ?_;have W:=S.fr.n;rintro A h ⟨g,j,K⟩;have Q:=ao g ((S.row (b:=b) m1).lt S.ok);have L: ∀c,aq A c-> ¬c=b:=fun c d e=>by have:=K c d;have:=(S.row (b:=b) m1).lt S.ok;omega
 have M: ∀c,aq A c-> ¬c=s:=fun c d e=>by have:=K c d;have:=(S.row (b:=s) m0).lt S.ok;omega
 replace S:=S.call g;replace f:=f.gr g;simp only [BZ,cls,S.ld (b:=b) (o:=3) m1 rfl,seval];refine cu (BE S.ok (G.A.gr S.gr) (by omega)) ?_;have X:=S.fr.n;rintro B h ⟨g,m,C,t⟩;have Y: ∀c,aq B c-> ¬aq y c/\ ¬aq A c:=fun c d=>⟨fun h=>by have:=C c d;have:=f.lt S.ok h;omega,fun h=>by have:=C c d;have:=j.lt S.ok h;omega⟩;have R:=ao g ((S.row (b:=b) m1).lt S.ok);have w: ∀c,aq B c-> ¬c=b:=fun c d e=>by have:=C c d;have:=(S.row (b:=b) m1).lt S.ok;omega
 have D: ∀c,aq B c-> ¬c=s:=fun c d e=>by have:=C c d;have:=(S.row (b:=s) m0).lt S.ok;omega
 replace S:=S.call g;replace f:=f.gr g;replace j:=j.gr g;have z: ∀c,aq y c\/aq A c\/aq B c->h0.n<=c:=fun c d=>by
  rcases d with h|h|h
  . exact Xm V (H c h)
  . exact Xm W (K c h)
  . exact Xm X (C c h)
 have Z:=f.fl;have f2:=j.fl;have f3:=m.fl;simp only [BZ,cls,seval];refine df (aA S (i:=1) rfl ?_ ?_ ?_ ono) ?_
 . exact(by simp only [FA0])
 . exact(by assumption)
 . exact Xe (lbt rfl)
 clear S;rintro h ⟨S,a⟩;replace f:=f.mo a I;replace j:=j.mo a L;replace m:=m.mo a w;replace t:=t.mo a w;clear a;simp only [LC,ae,lay,Xb,Xc,seval]at S;simp only [BZ,cls,seval];refine df (aA S (i:=1) rfl ?_ ?_ ?_ ono) ?_
 . exact(by simp only [FA0])
 . exact(by assumption)
 . exact Xe (lbt rfl)
 clear S;rintro h ⟨S,a⟩;replace f:=f.mo a I;replace j:=j.mo a L;replace m:=m.mo a w;replace t:=t.mo a w;clear a;simp only [LC,ae,lay,Xb,Xc,seval]at S;simp only [BZ,cls,seval];refine df (aA S (i:=1) rfl ?_ ?_ ?_ ono) ?_
 . exact(by simp only [FA0])
 . exact(by assumption)
 . exact Xe (lbt rfl)
 clear S;rintro h ⟨S,a⟩;replace f:=f.mo a I;replace j:=j.mo a L;replace m:=m.mo a w;replace t:=t.mo a w;clear a;simp only [LC,ae,lay,Xb,Xc,seval]at S;simp only [BZ,seval];refine⟨by simp only [aK,aS,aH,aU,aJ,ne_eq,not_false_eq_true,aW,aZ,aT,aM,bA,ca,aD,Xt,cD,ah,aB P,aB Q,aB R,aF P,aF Q,aF R,seval],?_⟩;simp only [BZ,S.lds (b:=b) (o:=0) (n:=4) m1 (lbt rfl),seval];refine aC (S.store (i:=0) rfl Tryz.t60.2.1 (by intro x e;cases e) rfl (by simp only [ae,Xb,Xc,List.all_cons,List.all_nil,Z.2.1,f2.2.1,f3.2.1,Xt];rfl) (lbt rfl) ono) ?_;clear S;rintro E ⟨S,F⟩;simp only [LC,ae,lay,Xb,Xc,seval]at S;simp only [BZ,ab];refine⟨_,tP (by decide) (by simp only [aD,ah,seval];exact bN Tryz.t60.1 Tryz.t60.2.1 (S.lds (b:=s) (o:=0) (n:=4) m0 (lbt rfl))),?_⟩;exact⟨S.gr,y,A,B,rfl,⟨f.mo F J,j.mo F M,m.mo F D⟩,z,t.mo F D,Y⟩
end Go.Ab
end
section
namespace Go.Ab
section
variable(A:List Arc)(f:Arc->Nat)
def outs(j v:Nat):List Nat:=(zO j).filter fun i=>decide (f (A.getD i default)=v)
def start:Nat->Nat
 |0=>0|v+1=>start v+(outs A f A.length v).length
theorem iJ(j v:Nat):outs A f (j+1) v=outs A f j v++(if f (A.getD j default)=v then [j]else []):=by simp_all[outs,XL,List.filter_append,default,List.filter_cons,List.filter_nil,decide_true,if_true]
theorem outs_pre{j k:Nat}(h:j<=k)(v:Nat): ∃l,outs A f k v=outs A f j v++l:=by
 induction k with
 |zero=>simp_all| succ k a=>
   by_cases b:j=k+1
   . simp_all
   grind[iJ,List.append_assoc]
theorem xj{j k:Nat}(h:j<=k)(v:Nat):(outs A f j v).length<=(outs A f k v).length:=by obtain⟨l,a⟩:=outs_pre A f h v;grind
theorem start_eq(v:Nat):start A f v=((zO A.length).filter fun i=>decide (f (A.getD i default)<v)).length:=by
 have a: ∀(l:List Nat) (v:Nat),(l.filter fun i=>decide (f (A.getD i default)<v+1)).length=(l.filter fun i=>decide (f (A.getD i default)<v)).length+(l.filter fun i=>decide (f (A.getD i default)=v)).length:=by
  intro l v
  induction l with
  |nil=>rfl| cons x l b=>grind
 induction v with
 |zero=>rw [start];symm;simp_all|succ v b=>rw [start,b,a];rfl
theorem qg(v:Nat):start A f v+(outs A f A.length v).length<=A.length:=by have:=start_eq A f (v+1);grind[start,Xm,XP]
theorem wX{u v:Nat}(h:u<v):start A f u+(outs A f A.length u).length<=start A f v:=by
 induction v with
 |zero=>omega| succ v a=>rw [start];grind
theorem A9{u v r s:Nat}(b:r<(outs A f A.length u).length)(c:s<(outs A f A.length v).length)(h:start A f u+r=start A f v+s):u=v/\r=s:=by
 rcases Nat.lt_trichotomy u v with a|a|a
 . have:=wX A f a;omega
 . grind
 . have:=wX A f a;omega
end
def cq(x:Nat):List Value:=[.int .i64 x]
theorem dV(x:Nat):(cq x).length=1:=rfl
def gP(h:Hp)(m:Nat)(v:Value)(N:Nat)(R:Nat->List Nat):Prop:=
 ∃a b,v=.slice (some ⟨a,0,none⟩) N N/\m<=a/\Row h a b 1/\b.length=N/\ ∀i,i<N-> ∃w,b[i]? =some w/\av h 1 cq w (R i)/\ ∀c,aq w c->m<=c
theorem gP.mo{M:Nat->Prop}{h d:Hp}{v:Value}{m N:Nat}{R:Nat->List Nat}(r:gP h m v N R)(g:Mo M h d)(s: ∀b,M b->b<m):gP d m v N R:=by obtain⟨f,e,j,t,k,l,n⟩:=r;refine⟨f,e,j,by omega,g.has (o:=.row e 1) k (fun h=>by grind),l,fun i p=>?_⟩;obtain⟨w,a,b,c⟩:=n i p;exact⟨w,a,b.mo g fun x q u=>by grind,fun x q=>by grind⟩
theorem gP.gr{h a:Hp}{v:Value}{m N:Nat}{R:Nat->List Nat}(g:Gr h a)(r:gP h m v N R):gP a m v N R:=
 r.mo (M:=NoM) g.fr (fun _ h=>h.elim)
theorem gP.low{h:Hp}{v:Value}{m a N:Nat}{R:Nat->List Nat}(r:gP h m v N R)(g:a<=m):gP h a v N R:=by
 obtain⟨b,c,d,j,e,f,k⟩:=r;exact⟨b,c,d,by omega,e,f,fun i l=>by
  grind⟩
structure aX(h:Hp)(m:Nat)(p:Value)(γ:Gra):Prop where
 ex: ∃b vx vy va vo vi,p=ptrTo b/\Row h b [.int .i64 γ.nodes,vx,vy,va,vo,vi] 1/\dS h vx vy va γ/\gP h m vo γ.nodes (outs γ.arcs Arc.s γ.arcs.length)/\gP h m vi γ.nodes (outs γ.arcs Arc.t γ.arcs.length)/\m<=b/\ ∀c,aq vx c\/aq vy c\/aq va c->m<=c
theorem dS.mo{M:Nat->Prop}{h i:Hp}{b d e:Value}{j:Gra}(a:dS h b d e j)(g:Mo M h i)(f: ∀c,aq b c\/aq d c\/aq e c-> ¬M c):dS i b d e j:=
 ⟨a.X.mo g fun c h=>f c (.inl h),a.Y.mo g fun c h=>f c (.inr (.inl h)),a.A.mo g fun c h=>f c (.inr (.inr h))⟩
theorem aX.mo{M:Nat->Prop}{h a:Hp}{m:Nat}{p:Value}{d:Gra}(n:aX h m p d)(g:Mo M h a)(e: ∀b,M b->b<m):aX a m p d:=by obtain⟨b,f,i,j,k,l,q,r,s,t,u,v,w⟩:=n.ex;exact⟨b,f,i,j,k,l,q,g.has (o:=.row _ 1) r (fun h=>by grind),s.mo g (fun c x y=>by grind),t.mo g e,u.mo g e,v,w⟩
theorem aX.gr{h a:Hp}{m:Nat}{p:Value}{b:Gra}(n:aX h m p b)(g:Gr h a):aX a m p b:=n.mo (M:=NoM) g.fr (fun _ h=>h.elim)
theorem jx{a:Type}{N k:Nat}{F F':Nat->a}(b: ∀i,i<N->i≠k->F' i=F i):((zO N).map F).set k (F' k)=(zO N).map F':=by refine Xv fun i=>?_;grind
theorem jQ{a:Type}{N k:Nat}{F:Nat->a}(b:k<N):((zO N).map F)[k]? =some (F k):=by simp [b]
end Go.Ab

end
section
namespace Go.Ab
open Go.Proofs
set_option maxRecDepth 10000
theorem slice_at{E:Env}{t e:TypeId}{b k len cap l m:Nat}{a c d:IntKind}(i:E.und t=some (.slice e))(j:E.sz e=some k)(f:l<=m)(o:m<=cap):
 fK E t (.slice (some ⟨b,0,none⟩) len cap) (some (.int a (l:Int))) (some (.int c (l:Int))) (some (.int d (m:Int)))=some (.slice (some ⟨b,if m=l then 0 else l*k,none⟩) 0 (m-l)):=by
 have g: ∀n:Nat,iA (n:Int)=some n:=fun n=>rfl;simp only [fK,i,fG,fF,g,Xz o,Xz f,Xz (XF l),cond_true,j,Nat.sub_self,Option.map];by_cases h:m=l
 . subst h;rw [Nat.beq_refl];simp
 . have:Nat.beq m l=false:=by
    cases p:Nat.beq m l with
    |false=>rfl|true=>exact absurd (XQ p) h
   rw [this,if_neg h];simp [gw]
theorem St.fill{M:Nat->Prop}{h0 h:Hp}{L:List (Nat×Ob)}{G:List GL}(S:St M h0 h L G){E:Env}{t m e:TypeId}{d i b off len cap md:Nat}{r l:List Value}{s:Option Nat}{x v:Value}(n:L[i]? =some (b,.row l md))(u:E.und t=some (.slice e))(w:eK E e d 1 r)
 (z:d9 E m=some false) (a:aR h 1 x=some (1,[v])) (A:Fl v) (H:len<cap) (B:off+len<l.length) (f:md≠0) {ts:List TypeId}:
 ∃g,dG E h (t::m::ts) (.slice (some ⟨b,off,s⟩) len cap) x=some (g,.slice (some ⟨b,off,s⟩) (len+1) cap)/\St M h0 g (L.set i (b,.row (l.set (off+len) v) md)) G/\Mo (· =b) h g:=by
 obtain⟨⟨I,k,rfl,c⟩,J,C⟩:=w;have D:=S.row (Xh n);obtain⟨y,F,p⟩:=D.store S.ok f (o:=off+len) (vs:=[v]) (by simp;omega) (by simp [A.2.1]);have e:lay l (off+len) [v]=l.set (off+len) v:=by
  refine Xv fun j=>?_;rw [jO (by simp;omega),XJ];simp only [List.length_cons,List.length_nil];by_cases q:off+len=j
  . subst q;rw [if_pos ⟨XF _,by omega⟩,if_pos rfl,if_pos B];simp
  . rw [if_neg (by omega),if_neg q]
 rw [e]at p;refine⟨h.put b y,?_,S.put n p,(Mo.refl (M:=(· =b)) S.ok).put (.inr rfl) y⟩;simp only [dG,z,jP,u,k,c,a];unfold fH;rw [Xz (by omega:len+1<=cap)];simp only [cond_true,c,Xg,F]
theorem note_runq{ρ:Operand->Value}{f:Operand}{xs:Array Operand}{ts:Array TypeId}{h a:Hp}:cQ ρ true (.call ⟨.value f,xs,ts⟩) h a=none:=rfl
theorem jo{i:Nat}:cM i []=none:=rfl
theorem pair_n{x:Option Tch}:jI none x=true:=rfl
def KeyF(E:Env)(g:FuncId)(f:Arc->Nat):Prop:= ∀(h:Hp) (a:Arc),h.t.Sized h.n->aN E g [.agg ⟨dw a⟩] h (.int .i64 (f a))
theorem of2_key:KeyF zM 173 Arc.s:=by intro f a c;have S:=Si c;refine aa (n:=5) (rs:=[.tmp 2]) rfl Tryz.e173 rfl rfl rfl (lbt rfl) ?_;simp only [BZ,dw,seval];refine ac (bg (by intro x e;cases e)) S ?_;clear S;intro h b S d;simp only [ae]at S;simp only [BZ,ab,S.ld (b:=b) (o:=0) m0 rfl,seval];exact S.gr
theorem of3_key:KeyF zM 174 Arc.t:=by intro f a c;have S:=Si c;refine aa (n:=5) (rs:=[.tmp 2]) rfl Tryz.e174 rfl rfl rfl (lbt rfl) ?_;simp only [BZ,dw,seval];refine ac (bg (by intro x e;cases e)) S ?_;clear S;intro h b S d;simp only [ae]at S;simp only [BZ,ab,S.ld (b:=b) (o:=1) m0 rfl,seval];exact S.gr
theorem lE(A:List Arc)(f:Arc->Nat)(j v:Nat):(outs A f j v).length<=j:=by unfold outs;exact Xm (XP _ _) (by simp)
theorem qM(z:Value)(N:Nat):a9 [z] ((N:Int)).toNat=(zO N).map fun _=>z:=by
 rw [XE];have: ∀n,a9 [z] n=List.replicate n z:=by
  intro n
  induction n with
  |zero=>rfl|succ n a=>simp [a9,a,List.replicate_succ]
 rw [this,XD,List.length_range]
def mR(A:List Arc)(f:Arc->Nat)(i v:Nat):Value:=.int .i64 ((outs A f i v).length:Nat)
def ij(A:List Arc)(f:Arc->Nat)(b v n:Nat):Value:=.slice (some ⟨b,if(outs A f A.length v).length=0 then 0 else start A f v,none⟩) n (outs A f A.length v).length
theorem cnt_set{A:List Arc}{f:Arc->Nat}{N i:Nat}(c:i<A.length):((zO N).map (mR A f i)).set (f A[i]) (.int .i64 (((outs A f i (f A[i])).length+1:Nat):Int))=(zO N).map (mR A f (i+1)):=by
 have b:A.getD i default=A[i]:=by simp [Xd,c]
 have e:(.int .i64 (((outs A f i (f A[i])).length+1:Nat):Int):Value)=mR A f (i+1) (f A[i]):=by unfold mR;rw [iJ,b,if_pos rfl,Xs];rfl
 rw [e];refine jx fun v d a=>?_;unfold mR;rw [iJ,b,if_neg (fun e=>a e.symm),XH]
def xd(A:List Arc)(f:Arc->Nat)(N i:Nat)(cs:List Value):Prop:=
 cs.length=A.length/\ ∀v r x,v<N->(outs A f i v)[r]? =some x->cs[start A f v+r]? =some (.int .i64 (x:Nat))
theorem fill_zero{A:List Arc}{f:Arc->Nat}{N:Nat}:xd A f N 0 ((zO A.length).map fun _=>.int .i64 0):=
 ⟨by simp,fun v r x _ h=>by simp [outs]at h⟩
theorem fill_step{A:List Arc}{f:Arc->Nat}{N i:Nat}{cs:List Value}(h:xd A f N i cs)(k:i<A.length):xd A f N (i+1) (cs.set (start A f (f A[i])+(outs A f i (f A[i])).length) (.int .i64 (i:Nat))):=by
 have c:A.getD i default=A[i]:=by simp [Xd,k]
 have g:(outs A f (i+1) (f A[i])).length<=(outs A f A.length (f A[i])).length:=xj A f (by omega) _;rw [iJ,c,if_pos rfl,Xs]at g;have hlt:(outs A f i (f A[i])).length<(outs A f A.length (f A[i])).length:=by simp at g;omega
 have l:=qg A f (f A[i]);refine⟨by rw [XM];exact h.1,fun v r x m a=>?_⟩;have n:r<(outs A f (i+1) v).length:=(List.getElem?_eq_some_iff.1 a).1;have d:r<(outs A f A.length v).length:=Nat.lt_of_lt_of_le n (xj A f (by omega) v);rw [XJ];by_cases e:start A f (f A[i])+(outs A f i (f A[i])).length=start A f v+r
 . obtain⟨b,o⟩:=A9 A f hlt d e;subst b;rw [if_pos e,if_pos (by rw [h.1];omega)];rw [iJ,c,if_pos rfl,XU,if_neg (by omega),o,Nat.sub_self]at a;simp at a;rw [a]
 . rw [if_neg e];refine h.2 v r x m ?_;rw [iJ,c]at a;by_cases b:f A[i]=v
   . rw [if_pos b,XU]at a;subst b;by_cases j:r<(outs A f i (f A[i])).length
     . rw [if_pos j]at a;exact a
     . rw [if_neg j]at a;have:=(List.getElem?_eq_some_iff.1 a).1;simp at this;exact absurd (by omega) e
   . rw [if_neg b,XH]at a;exact a
theorem of1_ok {h0:Hp} (ok:h0.t.Sized h0.n) {u:Gra} (J:jY u) {vx vy K:Value} {b:Nat} (hb:Row h0 b [.int .i64 u.nodes,vx,vy,K] 1) (ga:dS h0 vx vy K u) {g:FuncId} {f:Arc->Nat} (hk:KeyF zM g f) (hf: ∀a∈u.arcs,f a<u.nodes):
 Ret zM 172 [.func (.func g) #[] #[],ptrTo b] h0 fun v W=>Gr h0 W/\gP W h0.n v u.nodes (outs u.arcs f u.arcs.length):=by
 have S:=Si ok;have n2:=J.n2;have L:=J.many;obtain⟨N,X,Y,A⟩:=u;simp only []at hb n2 L hf;have M:av h0 3 dw K A:=ga.A;have l0:=hb.load1 (o:=0) rfl;have l3:=hb.load1 (o:=3) rfl;refine aa (n:=85) (rs:=[.tmp 3]) rfl Tryz.e172 rfl rfl rfl (lbt rfl) ?_;simp only [BZ,l0,seval];refine ac (kH (by exact Tryz.t41.1) (by exact Tryz.e3E) (by omega) (by omega)) S ?_;clear S;intro h B S al;rw [qM]at S;replace S:St NoM h0 h [(B,.row ((zO N).map (mR A f 0)) 1)] []:=S;simp only [BZ,S.old l3 (fun h=>h),M.lenq,XE,seval];refine aV (fun(i:Nat) m h=>i<=A.length/\St NoM h0 h [(B,.row ((zO N).map (mR A f i)) 1)] []/\m 0=.func (.func g) #[] #[]/\m 1=ptrTo b/\m 4=.slice (some ⟨B,0,none⟩) N N/\m 18=K/\m 19=.int .i64 A.length/\m 20=.int .i64 i) (fun i=>A.length-i) ?_ 0 _ _ ?_
 . clear S;intro i O m h ⟨hi,S,r0,r1,r4,r18,r19,r20⟩;by_cases hlt:i<A.length
   . obtain⟨c,o,t,C⟩:=(M.gr S.gr).ix (kd:=.i64) iR hlt;have p:f A[i]<N:=hf _ (XA hlt);have a3:=lE A f i (f A[i]);have w:am .i64 ((i:Int)+1)=((i+1:Nat):Int):=(by rw [wrap64]<;>omega);have Z:am .i64 (((outs A f i (f A[i])).length:Int)+1)=(((outs A f i (f A[i])).length+1:Nat):Int):=(by rw [wrap64]<;>omega);simp only [BZ,r18,r19,r20,az,hlt,t,C,seval];refine ac ay S ?_;clear S;intro h b6 S an;simp only [BZ,dw,seval];refine aC (S.store (i:=0) rfl ?_ ?_ rfl rfl ?_ ono) ?_
     . exact(by exact Tryz.t139.2.1)
     . exact(by intro x e;cases e)
     . exact lbt rfl
     clear S;rintro h ⟨S,y⟩;clear y;simp only [LC,ae,lay,Xb,Xc,seval]at S;simp only [BZ,r0,r4,S.lds (b:=b6) (o:=0) (n:=3) m0 (lbt rfl),seval];refine ag (hk _ A[i] S.ok) ?_;intro h g;replace S:=S.call g;clear g;have D:=S.ld (b:=B) (o:=f A[i]) m1 (jQ (F:=mR A f i) p);unfold mR at D;simp only [BZ,p,D,Z,seval];refine aC (aA S (i:=1) rfl Tryz.t3.2.2.1 bR (by simpa using p) ono) ?_;clear S D;rintro h ⟨S,y⟩;clear y;simp only [LC]at S;rw [cnt_set hlt]at S;replace S:=S.drop1;simp only [BZ,r20,w,seval];exact O (i+1) _ _ (by omega) ⟨by omega,S,by simp [aw,r0,r1,ah,r4,r18,r19]⟩
   . have E : i=A.length:=(by omega);subst E;simp only [BZ,r19,r20,az,hlt,seval];refine ar (ax rfl) (q:=72) (ps:=[]) (by kernel_rfl) ?_;simp only [BZ,cls,r1,S.old l3 (fun h=>h),M.lenq,seval];refine dL (kH (by exact Tryz.t41.1) (by exact Tryz.e3E) (by omega) (by omega)) S ?_;clear S;intro h d S Q aL;rw [qM]at S;simp only [BZ,cls,r1,S.old l0 (fun h=>h),XE,seval];refine dL (kH (by exact Tryz.t93.1) (by exact Tryz.e41E) (by omega) (by omega)) S ?_;clear S;intro h H S R a0;rw [qM]at S;simp only [BZ,cls,r4,XE,seval];have e0:(zO N).map (fun v=>if v<0 then ij A f d v 0 else .slice none 0 0)=(zO N).map (fun _=>(.slice none 0 0:Value)):=(by simp);rw [<-e0]at S;refine aV (fun(j:Nat) m h=>j<=N/\St NoM h0 h [(H,.row ((zO N).map fun v=>if v<j then ij A f d v 0 else .slice none 0 0) 1),(d,.row ((zO A.length).map fun _=>.int .i64 0) 1),(B,.row ((zO N).map (mR A f A.length)) 1)] []/\
      m 0=.func (.func g) #[] #[]/\m 1=ptrTo b/\m 7=.slice (some ⟨d,0,none⟩) A.length A.length/\m 8=.slice (some ⟨H,0,none⟩) N N/\m 9=.int .i64 (start A f j)/\m 40=.slice (some ⟨B,0,none⟩) N N/\m 41=.int .i64 N/\m 42=.int .i64 j) (fun j=>N-j) ?_ 0 _ _ ?_
     . clear S r0 r1 r4 r18 r19 r20;intro j O m h ⟨hj,S,r0,r1,r7,r8,r9,r40,r41,r42⟩;by_cases z:j<N
       . have D:=S.ld (b:=B) (o:=j) m2 (jQ (F:=mR A f A.length) z);unfold mR at D;have ad:=qg A f j;have w:am .i64 ((j:Int)+1)=((j+1:Nat):Int):=(by rw [wrap64]<;>omega);have Z:am .i64 ((start A f j:Int)+((outs A f A.length j).length:Nat))=((start A f j+(outs A f A.length j).length:Nat):Int):=(by rw [wrap64]<;>omega);have sl:fK zM 41 (.slice (some ⟨d,0,none⟩) A.length A.length) (some (.int .i64 (start A f j))) (some (.int .i64 (start A f j))) (some (.int .i64 ((start A f j+(outs A f A.length j).length:Nat):Int)))=some (ij A f d j 0):=by
          rw [slice_at Tryz.t41.1 Tryz.t3.2.2.1 (by omega) (by omega)];unfold ij;rw [Nat.add_sub_cancel_left,Xg];by_cases G:(outs A f A.length j).length=0
          . rw [if_pos (by omega),if_pos G]
          . rw [if_neg (by omega),if_neg G]
         have fr:Fl (ij A f d j 0):=bO;simp only [BZ,Option.map_some,r7,r8,r9,r40,r41,r42,az,z,D,Z,sl,seval];refine aC (aA S (i:=0) rfl Tryz.t41.2.2.1 fr (by simpa using z) ono) ?_;clear S D;rintro h ⟨S,y⟩;clear y;simp only [LC]at S;rw [show((zO N).map fun v=>if v<j then ij A f d v 0 else .slice none 0 0).set j (ij A f d j 0)=(zO N).map fun v=>if v<j+1 then ij A f d v 0 else .slice none 0 0 from by
          have:=jx (N:=N) (k:=j) (F:=fun v=>if v<j then ij A f d v 0 else .slice none 0 0) (F':=fun v=>if v<j+1 then ij A f d v 0 else .slice none 0 0) (fun v I T=>by
           show ite _ _ _=ite _ _ _;by_cases h1:v<j
           . rw [if_pos h1,if_pos (by omega)]
           . rw [if_neg h1,if_neg (by omega)])
          simp only [if_pos (show j<j+1 by omega)]at this;exact this]at S
         simp only [BZ,r9,r42,w,Z,seval];exact O (j+1) _ _ (by omega) ⟨by omega,S,by simp [aw,r0,r1,ah,r7,r8,start,r40,r41]⟩
       . have af:j=N:=(by omega);subst af;simp only [BZ,r1,r41,r42,az,z,S.old l3 (fun h=>h),M.lenq,seval];have e1:((zO j).map fun v=>if v<j then ij A f d v 0 else .slice none 0 0)=(zO j).map fun v=>ij A f d v (outs A f 0 v).length:=(by refine List.map_congr_left fun v I=>?_;rw [if_pos (List.mem_range.1 I)];rfl);rw [e1]at S;refine aV (fun(i:Nat) m h=>i<=A.length/\(∃cs,xd A f j i cs/\St NoM h0 h [(H,.row ((zO j).map fun v=>ij A f d v (outs A f i v).length) 1),(d,.row cs 1),(B,.row ((zO j).map (mR A f A.length)) 1)] [])/\
          m 0=.func (.func g) #[] #[]/\m 1=ptrTo b/\m 8=.slice (some ⟨H,0,none⟩) j j/\m 62=K/\m 63=.int .i64 A.length/\m 64=.int .i64 i) (fun i=>A.length-i) ?_ 0 _ _ ?_
         . clear S r0 r1 r7 r8 r9 r40 r41 r42;intro i O m h ⟨hi,⟨cs,hcs,S⟩,r0,r1,r8,r62,r63,r64⟩;by_cases hlt:i<A.length
           . obtain⟨c,o,t,C⟩:=(M.gr S.gr).ix (kd:=.i64) iR hlt;have p:f A[i]<j:=hf _ (XA hlt);have w:am .i64 ((i:Int)+1)=((i+1:Nat):Int):=(by rw [wrap64]<;>omega);simp only [BZ,r62,r63,r64,az,hlt,t,C,seval];refine ac ay S ?_;clear S;intro h U S ai;simp only [BZ,dw,seval];refine aC (S.store (i:=0) rfl ?_ ?_ rfl rfl ?_ ono) ?_
             . exact(by exact Tryz.t139.2.1)
             . exact(by intro x e;cases e)
             . exact lbt rfl
             clear S;rintro h ⟨S,y⟩;clear y;simp only [LC,ae,lay,Xb,Xc,seval]at S;simp only [BZ];refine ar (ax rfl) (q:=2184) (ps:=[(3,6)]) (by kernel_rfl) ?_;simp only [BZ,cls,r0,r8,S.lds (b:=U) (o:=0) (n:=3) m0 (lbt rfl),seval];refine xn (hk _ A[i] S.ok) ?_;intro h V;replace S:=S.call V;clear V;simp only [BZ,cls,r0,r8,S.lds (b:=U) (o:=0) (n:=3) m0 (lbt rfl),seval];refine xn (hk _ A[i] S.ok) ?_;intro h V;replace S:=S.call V;clear V;have hd:A.getD i default=A[i]:=(by simp [Xd,hlt]);have hl:(outs A f (i+1) (f A[i])).length<=(outs A f A.length (f A[i])).length:=xj A f (by omega) _;rw [iJ,hd,if_pos rfl,Xs,XR]at hl;have ad:=qg A f (f A[i]);have hK:(outs A f A.length (f A[i])).length≠0:=(by omega);have lr:=S.ld (b:=H) (o:=f A[i]) m1 (jQ (F:=fun v=>ij A f d v (outs A f i v).length) p);simp only [ij,if_neg hK]at lr;simp only [BZ,cls,p,lr,seval];refine dL (bV (by exact Tryz.t41.1) (by exact Tryz.e3E) (by decide) (by rfl)) S ?_;clear S;intro h bs S a1 a2;simp only [LC,a9,bQ,ae,Xi,Xf,Xg,Xn,seval]at S;simp only [BZ,cls,seval];obtain⟨h2,e2,S2,ak⟩:=S.fill (i:=3) (x:=.slice (some ⟨bs,0,none⟩) 1 1) (v:=.int .i64 (i:Nat)) (off:=start A f (f A[i])) (len:=(outs A f i (f A[i])).length) (cap:=(outs A f A.length (f A[i])).length) (s:=none) rfl Tryz.t41.1 Tryz.e3E Tryz.t41.2.2.2.2.2
              (by simp only [aR];rw [S.lds (b:=bs) (o:=0) (n:=1*1) m0 (lbt rfl)];rfl) bR (by omega) (by have:=hcs.1;omega) ono (ts:=[])
             refine dn_v (P:=fun W v=>W=h2/\v=.slice (some ⟨d,start A f (f A[i]),none⟩) ((outs A f i (f A[i])).length+1) (outs A f A.length (f A[i])).length) ⟨_,_,e2,rfl,rfl⟩ ?_;rintro h v ⟨rfl,rfl⟩;clear S e2 ak;have S:=S2;clear S2;simp only [LC]at S;simp only [BZ,cls,p,seval];refine df (aA S (i:=2) rfl Tryz.t41.2.2.1 bO (by simpa using p) ono) ?_;clear S;rintro h ⟨S,y⟩;clear y;simp only [LC]at S;have e3:((zO j).map fun v=>ij A f d v (outs A f i v).length).set (f A[i]) (.slice (some ⟨d,start A f (f A[i]),none⟩) ((outs A f i (f A[i])).length+1) (outs A f A.length (f A[i])).length)=(zO j).map fun v=>ij A f d v (outs A f (i+1) v).length:=by
              have:=jx (N:=j) (k:=f A[i]) (F:=fun v=>ij A f d v (outs A f i v).length) (F':=fun v=>ij A f d v (outs A f (i+1) v).length) (fun v I T=>by
               show ij _ _ _ _ _=ij _ _ _ _ _;rw [iJ,hd,if_neg (fun e=>T e.symm),XH])
              rw [<-this];congr 1;show _=ij _ _ _ _ _;rw [iJ,hd,if_pos rfl,Xs];unfold ij;rw [if_neg hK];rfl
             rw [e3]at S;replace S:=S.drop1.drop1;simp only [BZ,r64,w,seval];refine⟨by simp only [aK,aS,aH,aU,aJ,ne_eq,not_false_eq_true,aW,aZ,aT,aM,bA,ca,aD,Xt,r0,r1,r8,ah,note_runq,mg,jo,pair_n,seval],?_⟩;exact O (i+1) _ _ (by omega) ⟨by omega,⟨_,fill_step hcs hlt,S⟩,by simp [aw,r0,r1,ah,r8,r62,r63]⟩
           . have E:i=A.length:=(by omega);subst E;simp only [BZ,ab,r8,r63,r64,az,hlt,seval];refine⟨S.gr,H,_,rfl,R,S.row m0,by simp,fun v I=>⟨_,jQ I,.inr ⟨d,_,none,_,rfl,XF _,?_⟩,fun c (hc:d=c)=>hc▸Q⟩⟩;have hR:=S.row (b:=d) (l:=cs) (md:=1) m1;have ht:=qg A f v;have hl:=hcs.1;rw [Xg];by_cases G:(outs A f A.length v).length=0
             . rw [if_pos G,G,hR.load (by omega)];rw [List.length_eq_zero_iff.1 G];rfl
             . rw [if_neg G,hR.load (by omega)];congr 1;refine Xv fun r=>?_;have e4:(outs A f A.length v).flatMap cq=(outs A f A.length v).map fun x=>.int .i64 (x:Nat):=(by rw [XS,List.map_eq_flatMap,XS];rfl);rw [e4,Xq,List.getElem?_take,List.getElem?_drop];by_cases hr:r<(outs A f A.length v).length
               . rw [if_pos hr,hcs.2 v r _ I (Xp hr),Xp hr];rfl
               . rw [if_neg hr,XT (by omega)];rfl
         . exact⟨XW _,⟨_,fill_zero,S⟩,by simp [aw,r0,r1,ah,r8]⟩
     . exact⟨XW _,S,by simp [aw,r0,r1,ah,start,r4]⟩
 . exact⟨XW _,S,by simp [aw,cD,dK,ah]⟩
theorem of_ok{h0:Hp}(F:h0.t.Sized h0.n){q:Gra}(d:jY q){r s t:Value}(u:dS h0 r s t q){m:Nat}(w:m<=h0.n)(G: ∀c,aq r c\/aq s c\/aq t c->m<=c):
 Ret zM 82 [kW q r s t] h0 fun v B=>Gr h0 B/\aX B m v q:=by
 have S:=Si F;refine aa (n:=20) (rs:=[.tmp 2]) rfl Tryz.e82 rfl rfl rfl (lbt rfl) ?_;simp only [BZ,kW,seval];refine ac (bg (by intro x e;cases e)) S ?_;clear S;intro h b S H;simp only [ae]at S;simp only [BZ,Xx,Xr,Xy,S.lds (b:=b) (o:=0) (n:=4) m0 (lbt rfl),seval];refine ac (bg (by intro x e;cases e)) S ?_;clear S;intro h l S p;simp only [ae]at S;simp only [BZ,seval];have I:=S.fr.n;have y:=(S.row (b:=l) m0).lt S.ok;refine step_ret (of1_ok S.ok d (S.row m1) (u.gr S.gr) of2_key (fun a z=>(d.arcs a z).1)) ?_;intro C h ⟨g,f⟩;replace S:=S.call g;clear g;simp only [BZ,seval];have J:=S.fr.n;have A:=(S.row (b:=l) m0).lt S.ok;refine step_ret (of1_ok S.ok d (S.row m1) (u.gr S.gr) of3_key (fun a z=>(d.arcs a z).2.1)) ?_;intro v h ⟨g,k⟩;replace S:=S.call g;replace f:=f.gr g;clear g;have K:Fl v:=by obtain⟨_,_,rfl,_⟩:=k;exact bO
 have L:Fl C:=by obtain⟨_,_,rfl,_⟩:=f;exact bO
 simp only [BZ,seval];have D: ∀c,c=l->c<_:=fun c e=>e▸y;have E: ∀c,c=l->c<_:=fun c e=>e▸A;refine aC (aA S (i:=0) rfl ?_ ?_ ?_ ono) ?_
 . exact(by simp only [FA0])
 . exact(by assumption)
 . exact Xe (lbt rfl)
 clear S;rintro h ⟨S,j⟩;replace f:=f.mo j D;replace k:=k.mo j E;clear j;simp only [LC,ae,lay,Xb,Xc,seval]at S;simp only [BZ,seval];refine aC (aA S (i:=0) rfl ?_ ?_ ?_ ono) ?_
 . exact(by simp only [FA0])
 . exact(by assumption)
 . exact Xe (lbt rfl)
 clear S;rintro h ⟨S,j⟩;replace f:=f.mo j D;replace k:=k.mo j E;clear j;simp only [LC,ae,lay,Xb,Xc,seval]at S;simp only [BZ,ab,seval];exact⟨S.gr,l,r,s,t,C,v,rfl,S.row m0,u.gr S.gr,f.low (Xm w I),k.low (Xm w J),Xm w p,G⟩
theorem netNew_ok{h0:Hp}(p:h0.t.Sized h0.n){d:Gra}(a:jY d){f i j:Value}(k:dS h0 f i j d):
 Ret zM 34 [kW d f i j] h0 fun r l=> ∃v,r=.tuple #[v,.nilIface]/\Gr h0 l/\aX l h0.n v d:=by
 have S:=Si p;refine aa (n:=17) (rs:=[.tmp 2,.tmp 3]) rfl Tryz.e34 rfl rfl rfl (lbt rfl) ?_;simp only [BZ,kW,seval];refine ac (bg (by intro x e;cases e)) S ?_;clear S;intro h b S q;simp only [ae]at S;simp only [BZ,Xx,Xr,Xy,S.lds (b:=b) (o:=0) (n:=4) m0 (lbt rfl),seval];refine ag (check_ok S.ok a (k.gr S.gr)) ?_;intro h g;replace S:=S.call g;clear g;simp only [BZ,Xx,Xr,Xy,S.lds (b:=b) (o:=0) (n:=4) m0 (lbt rfl),seval];have s:=S.fr.n;refine step_ret (own_ok S.ok a (k.gr S.gr)) ?_;intro v h ⟨g,vx',vy',va',t,ga',hz,_⟩;replace S:=S.call g;clear g;subst t;simp only [BZ,seval];refine step_ret (of_ok S.ok a ga' (m:=h0.n) S.fr.n (fun c u=>Xm s (hz c u))) ?_;intro v h ⟨g,R⟩;replace S:=S.call g;clear g;simp only [BZ,ab,seval];exact⟨_,rfl,S.gr,R⟩
end Go.Ab
end
section
namespace Go.Ab
structure Hd where
 id:Nat
 key:Int
deriving Inhabited,DecidableEq
def hle(a b:Hd):Prop:=a.key<b.key\/(a.key=b.key/\a.id<=b.id)
def hlt(a b:Hd):Prop:=a.key<b.key\/(a.key=b.key/\a.id<b.id)
instance (a b:Hd):Decidable (hlt a b):=by unfold hlt;infer_instance
theorem vJ{a b:Hd}(h: ¬hlt a b):hle b a:=by unfold hlt at h;unfold hle;omega
theorem sZ{a b:Hd}(h:hlt a b):hle a b:=by unfold hlt at h;unfold hle;omega
theorem ky{a b c:Hd}(h:hle a b)(k:hle b c):hle a c:=by unfold hle at*;omega
theorem u9(a:Hd):hle a a:=by unfold hle;omega
def sw(l:List Hd)(i k:Nat):List Hd:=(l.set i (l.getD k default)).set k (l.getD i default)
theorem ip(l:List Hd)(i k:Nat):(sw l i k).length=l.length:=by simp [sw]
theorem pR(l:List Hd)(i j:Nat)(x:Hd):(l.set i x).getD j default=if i=j/\j<l.length then x else l.getD j default:=by grind
theorem iX(l:List Hd){i k:Nat}(a:i<l.length)(b:k<l.length)(j:Nat):(sw l i k).getD j default=if j=k then l.getD i default else if j=i then l.getD k default else l.getD j default:=by unfold sw;grind
theorem tB(l:List Hd){i k:Nat}(a:i<l.length)(b:k<l.length):(sw l i k).Perm l:=by grind[set,List.set_set_perm,sw,default]
def mJ(l:List Hd):Prop:= ∀j,0<j->j<l.length->hle (l.getD ((j-1)/4) default) (l.getD j default)
def rD(l:List Hd)(i:Nat):Prop:=(∀j,0<j->j<l.length->j≠i->hle (l.getD ((j-1)/4) default) (l.getD j default))/\ ∀j,0<j->j<l.length->(j-1)/4=i->0<i->hle (l.getD ((i-1)/4) default) (l.getD j default)
theorem up_done{l:List Hd}{i:Nat}(h:rD l i)(c:i=0\/hle (l.getD ((i-1)/4) default) (l.getD i default)):mJ l:=by
 intro j a b;by_cases e:j=i
 . grind
 . exact h.1 j a b e
theorem up_step{l:List Hd}{i:Nat}(e:i<l.length)(h:rD l i)(h0:0<i)(m:hlt (l.getD i default) (l.getD ((i-1)/4) default)):rD (sw l i ((i-1)/4)) ((i-1)/4):=by
 have c:(i-1)/4<l.length:=by omega
 generalize f:(i-1)/4=p at*
 have s:p<i:=by omega
 refine⟨fun j d a n=>?_,fun j d a n o=>?_⟩
 . rw [ip]at a;rw [iX l e c,iX l e c,if_neg n];by_cases b:j=i
   . subst b;rw [f,if_pos rfl,if_pos rfl];exact sZ m
   . rw [if_neg b];by_cases g:(j-1)/4=p
     . rw [if_pos g];have:=h.1 j d a b;rw [g]at this;exact ky (sZ m) this
     . rw [if_neg g];by_cases k:(j-1)/4=i
       . rw [if_pos k];have:=h.2 j d a k h0;grind
       . rw [if_neg k];exact h.1 j d a b
 . rw [ip]at a;have q: ¬(p-1)/4=p:=(by omega);have r: ¬(p-1)/4=i:=(by omega);rw [iX l e c,iX l e c,if_neg q,if_neg r,if_neg (show¬j=p by omega)];have t:=h.1 p o c (by omega);by_cases b:j=i
   . grind
   . rw [if_neg b];have:=h.1 j d a b;grind[ky]
def tu(l:List Hd)(i:Nat):Prop:=(∀j,0<j->j<l.length->(j-1)/4≠i->hle (l.getD ((j-1)/4) default) (l.getD j default))/\ ∀j,0<j->j<l.length->(j-1)/4=i->0<i->hle (l.getD ((i-1)/4) default) (l.getD j default)
theorem dn_done{l:List Hd}{i:Nat}(h:tu l i)(c: ∀j,0<j->j<l.length->(j-1)/4=i->hle (l.getD i default) (l.getD j default)):mJ l:=by
 intro j a b;by_cases e:(j-1)/4=i
 . grind
 . exact h.1 j a b e
theorem dn_step{l:List Hd}{i b:Nat}(h:tu l i)(o:0<b)(a:b<l.length)(m:(b-1)/4=i)(p:hlt (l.getD b default) (l.getD i default))(q: ∀j,0<j->j<l.length->(j-1)/4=i->hle (l.getD b default) (l.getD j default)):tu (sw l i b) b:=by
 have d:i<l.length:=by omega
 refine⟨fun j e c f=>?_,fun j e c f _=>?_⟩
 . rw [ip]at c;rw [iX l d a,iX l d a,if_neg f];by_cases g:(j-1)/4=i
   . rw [if_pos g];by_cases k:j=b
     . rw [if_pos k];exact sZ p
     grind
   . rw [if_neg g];by_cases k:j=b
     . omega
     . rw [if_neg k];by_cases n:j=i
       . subst n;rw [if_pos rfl];exact h.2 b o a m e
       . rw [if_neg n];exact h.1 j e c g
 . rw [ip]at c;rw [iX l d a,iX l d a,m,if_neg (show¬i=b by omega),if_pos rfl,if_neg (show¬j=b by omega),if_neg (show¬j=i by omega)];have:=h.1 j e c (by omega);rwa [f]at this
theorem heap_min{l:List Hd}(h:mJ l): ∀j,j<l.length->hle (l.getD 0 default) (l.getD j default):=by
 intro j
 induction j using Nat.strongRecOn with
 | _ j a=>
   intro b;by_cases e:j=0
   . subst e;exact u9 _
   . exact ky (a ((j-1)/4) (by omega) (by omega)) (h j (by omega) b)
theorem ou(l m:List Hd){j:Nat}(a:j<l.length):(l++m).getD j default=l.getD j default:=by grind
theorem xU{l:List Hd}(h:mJ l)(x:Hd):rD (l++[x]) l.length:=by
 refine⟨fun j a b c=>?_,fun j a b c _=>?_⟩
 . simp at b;rw [ou l _ (by omega),ou l _ (by omega)];exact h j a (by omega)
 grind
theorem CC{l:List Hd}(h:mJ l){i:Nat}{x:Hd}(k:hle x (l.getD i default)):rD (l.set i x) i:=by
 refine⟨fun j b a c=>?_,fun j b a c f=>?_⟩
 . rw [XM]at a;rw [pR,pR,if_neg (show¬(i=j/\_)from fun e=>c e.1.symm)]
   split
   . rename_i e;have:=h j b a;grind[ky]
   . exact h j b a
 . rw [XM]at a;rw [pR,pR,if_neg (show¬(i=j/\_) by omega),if_neg (show¬(i=(i-1)/4/\_) by omega)];have g:=h i f (by omega);have d:=h j b a;rw [c]at d;exact ky g d
theorem getD_take(l:List Hd){n j:Nat}(a:j<n):(l.take n).getD j default=l.getD j default:=by grind
theorem heap_pop{l:List Hd}(h:mJ l)(d:0<l.length):tu ((sw l 0 (l.length-1)).take (l.length-1)) 0:=by
 refine⟨fun j a b c=>?_,fun j a b c e=>?_⟩
 . rw [List.length_take,ip]at b;rw [getD_take _ (by omega),getD_take _ (by omega),iX l (by omega) (by omega),iX l (by omega) (by omega),if_neg (by omega),if_neg (by omega),if_neg (by omega),if_neg (by omega)];exact h j a (by omega)
 . omega
def iw(l:List Hd)(K:Nat->Option Int):Prop:=(l.map Hd.id).Nodup/\ ∀v k,K v=some k↔⟨v,k⟩∈l
def c8(K:Nat->Option Int)(v:Nat)(x:Option Int):Nat->Option Int:=fun u=>if u=v then x else K u
theorem iw.perm{l m:List Hd}{K:Nat->Option Int}(h:iw l K)(p:m.Perm l):iw m K:=
 ⟨(p.map Hd.id).nodup_iff.2 h.1,fun v k=>by rw [h.2];grind⟩
theorem iw.free{l:List Hd}{K:Nat->Option Int}(h:iw l K){v:Nat}(c:K v=none):v∉l.map Hd.id:=by intro a;obtain⟨x,b,rfl⟩:=List.mem_map.1 a;have:=(h.2 x.id x.key).2 b;grind
theorem iw.push{l:List Hd}{K:Nat->Option Int}(h:iw l K){v:Nat}(d:K v=none)(k:Int):iw (l++[⟨v,k⟩]) (c8 K v (some k)):=by
 refine⟨?_,fun u x=>?_⟩
 . rw [List.map_append,Xw];exact⟨h.1,by simp,fun a f b g e=>h.free d (by grind)⟩
 . unfold c8;by_cases e:u=v
   . subst e;rw [if_pos rfl,List.mem_append];constructor
     . grind
     . rintro(c|c)
       . have:=(h.2 u x).2 c;grind
       grind
   . rw [if_neg e,List.mem_append,h.2];grind
theorem nodup_idx{l:List Hd}(h:(l.map Hd.id).Nodup){i j:Nat}(a:i<l.length)(b:j<l.length)(e:(l.getD i default).id=(l.getD j default).id):i=j:=by refine oz h (x:=(l.getD i default).id) (by simp [a]) ?_;grind
theorem iw.lower{l:List Hd}{K:Nat->Option Int}(h:iw l K){i:Nat}(f:i<l.length)(k:Int):iw (l.set i ⟨(l.getD i default).id,k⟩) (c8 K (l.getD i default).id (some k)):=by
 have g:(l.set i ⟨(l.getD i default).id,k⟩).map Hd.id=l.map Hd.id:=by rw [List.map_set];refine Xv fun j=>?_;grind
 refine⟨by rw [g];exact h.1,fun u x=>?_⟩;unfold c8;by_cases e:u=(l.getD i default).id
 . rw [if_pos e];constructor
   . intro m;cases m;subst e;exact List.mem_iff_getElem?.2 ⟨i,by simp [f]⟩
   . intro b;obtain⟨j,a⟩:=List.mem_iff_getElem?.1 b;rw [XJ]at a
     split at a
     . cases a;rfl
     . rename_i c;have d:=(List.getElem?_eq_some_iff.1 a).1;exact absurd (nodup_idx h.1 f d (by grind)) c
 . rw [if_neg e,h.2];constructor
   . intro b;obtain⟨j,a⟩:=List.mem_iff_getElem?.1 b;refine List.mem_iff_getElem?.2 ⟨j,?_⟩;grind
   grind
theorem iw.pop{l:List Hd}{K:Nat->Option Int}(h:iw l K)(b:0<l.length):iw ((sw l 0 (l.length-1)).take (l.length-1)) (c8 K (l.getD 0 default).id none):=by
 have p:=tB l (i:=0) (k:=l.length-1) b (by omega);have c:=h.perm p;have e:sw l 0 (l.length-1)=(sw l 0 (l.length-1)).take (l.length-1)++[l.getD 0 default]:=by refine Xv fun j=>?_;have g:=iX l (i:=0) (k:=l.length-1) b (by omega) (l.length-1);rw [if_pos rfl]at g;grind[ip,Xk,List.getElem?_take_of_lt,Xj,XT]
 generalize(sw l 0 (l.length-1)).take (l.length-1)=m at*
 generalize l.getD 0 default=x at*
 rw [e]at c;obtain⟨a,o⟩:=c;rw [List.map_append,Xw]at a;refine⟨a.1,fun v k=>?_⟩;unfold c8;by_cases d:v=x.id
 . rw [if_pos d];constructor
   . intro h;cases h
   . intro n;exact absurd d (a.2.2 v (List.mem_map_of_mem (f:=Hd.id) n) x.id (by simp))
 grind
theorem iw.at{l:List Hd}{K:Nat->Option Int}(h:iw l K){i:Nat}(a:i<l.length):K (l.getD i default).id=some (l.getD i default).key:=
 (h.2 _ _).2 (List.mem_iff_getElem?.2 ⟨i,by simp [a]⟩)
theorem iw.idx{l:List Hd}{K:Nat->Option Int}(h:iw l K){v:Nat}{k:Int}(a:K v=some k): ∃i,i<l.length/\l.getD i default=⟨v,k⟩:=by obtain⟨i,b⟩:=List.mem_iff_getElem?.1 ((h.2 v k).1 a);grind
theorem iw.nil{K:Nat->Option Int}(h:iw [] K)(v:Nat):K v=none:=by
 cases a:K v with
 |none=>rfl|some k=>have:=(h.2 v k).1 a;cases this
theorem cont_nil:iw [] (fun _=>none):=⟨.nil,fun v k=>by grind⟩
end Go.Ab

end
section
namespace Go.Ab
def FAR:Nat:=72057594037927936
def du:Nat:=2147483647
theorem dR:FAR=72057594037927936:=rfl
theorem nH:du=2147483647:=rfl
inductive Wk(B:List Arc)(s:Nat):Nat->Nat->Prop where
 |nil:Wk B s s 0
 |snoc {w:Nat} {a:Arc}:a∈B->Wk B s a.s w->Wk B s a.t (w+a.w)
theorem Wk.snoc'{B:List Arc}{s u v w x:Nat}(h:Wk B s u w){a:Arc}(b:a∈B)(c:a.s=u)(d:a.t=v)(e:x=w+a.w):Wk B s v x:=by subst c d e;exact .snoc b h
def IsD(B:List Arc)(s v x:Nat):Prop:=(x<FAR/\Wk B s v x/\ ∀w,Wk B s v w->x<=w)\/(x=FAR/\ ∀w,¬Wk B s v w)
theorem IsD.uniq{B:List Arc}{s v x y:Nat}(h:IsD B s v x)(k:IsD B s v y):x=y:=by
 rcases h with⟨a,b,c⟩|⟨a,b⟩<;>rcases k with⟨d,e,f⟩|⟨d,e⟩
 . have:=c _ e;have:=f _ b;omega
 . exact absurd b (e _)
 . exact absurd e (b _)
 . omega
theorem IsD.le{B:List Arc}{s v x:Nat}(h:IsD B s v x):x<=FAR:=by rcases h with⟨a,_,_⟩|⟨a,_⟩<;>omega
theorem IsD.self{B:List Arc}{s x:Nat}(h:IsD B s s x):x=0:=by
 rcases h with⟨a,b,c⟩|⟨a,b⟩
 . have:=c 0 .nil;omega
 . exact absurd .nil (b 0)
theorem IsD.arc{B:List Arc}{s x y:Nat}{a:Arc}(c:a∈B)(f:IsD B s a.s x)(d:IsD B s a.t y):y<=x+a.w:=by
 rcases f with⟨g,b,j⟩|⟨g,b⟩
 . rcases d with⟨h,e,i⟩|⟨h,e⟩
   . exact i _ (.snoc c b)
   . exact absurd (.snoc c b) (e _)
 . have:=d.le;omega
theorem rx: ∀(N:Nat) (l:List Nat),l.Nodup->(∀x∈l,x<N)->l.length<=N
 | 0,l,_,h=>by
   cases l with
   |nil=>simp|cons x l=>have:=h x (by simp);omega
 | N+1,l,b,h=>by
   have f:=rx N (l.erase N) (b.erase N) (fun x c=>by
    have d:=h x (List.mem_of_mem_erase c);have g:x≠N:=fun e=>(by subst e;exact(List.Nodup.not_mem_erase b) c);omega)
   have d:=List.length_erase (a:=N) (l:=l)
   split at d<;>omega

section
variable{B:List Arc}{s N:Nat}{O:List Nat}{D:Nat->Nat}{K:Nat->Option Int}{ex:Arc->Prop}
structure Dj(B:List Arc)(s N:Nat)(O:List Nat)(D:Nat->Nat)(K:Nat->Option Int)(ex:Arc->Prop):Prop where
 i1: ∀v,v∈O->K v=none
 i2: ∀v∈O,Wk B s v (D v)/\(∀w,Wk B s v w->D v<=w)/\D v<=O.length*du
 i2f: ∀v,v∉O->D v=FAR
 i3: ∀v k,K v=some k->v<N/\ ∃n:Nat,k=n/\Wk B s v n/\n<=O.length*du
 i4: ∀a∈B,a.s∈O-> ¬ex a->a.t∈O\/ ∃k:Int,K a.t=some k/\k<=D a.s+a.w
 i5:s∈O\/K s=some 0
 nd:O.Nodup
 lt: ∀v∈O,v<N
theorem Dj.len(d:Dj B s N O D K ex):O.length<=N:=rx N O d.nd d.lt
theorem dj_init(b:s<N):Dj B s N [] (fun _=>FAR) (c8 (fun _=>none) s (some 0)) (fun _=>False):=by
 refine⟨fun v h=>(by cases h),fun v h=>(by cases h),fun v _=>rfl,fun v k h=>?_,fun a _ h=>(by cases h),.inr (by simp [c8]),.nil,fun v h=>(by cases h)⟩;unfold c8 at h
 split at h
 . rename_i e;cases h;subst e;exact⟨b,0,rfl,.nil,by simp⟩
 . cases h
theorem Dj.front(d:Dj B s N O D K (fun _=>False)){x w:Nat}(h:Wk B s x w):x∈O\/ ∃y k,K y=some k/\k<=(w:Int):=by
 induction h with
 |nil=>exact d.i5.imp (fun h=>h) (fun h=>⟨_,_,h,by omega⟩)
 | @snoc w a e f b=>
   rcases b with b|⟨y,k,c,g⟩
   . rcases d.i4 a e b (fun h=>h)with h|⟨k,c,g⟩
     . exact .inl h
     . have:=(d.i2 _ b).2.1 _ f;exact .inr ⟨_,k,c,by omega⟩
   . exact .inr ⟨y,k,c,by omega⟩
theorem Dj.pop(d:Dj B s N O D K (fun _=>False)){v:Nat}{n:Nat}(q:K v=some (n:Int))(A: ∀u k,K u=some k->(n:Int)<=k):
 Dj B s N (O++[v]) (fun u=>if u=v then n else D u) (c8 K v none) (fun a=>a.s=v)/\v∉O/\v<N/\n<=O.length*du:=by
 have g:v∉O:=fun h=>by have:=d.i1 v h;rw [q]at this;cases this
 obtain⟨i,C,e,E,l⟩:=d.i3 v _ q;have e:n=C:=by omega
 subst e;have r:(O++[v]).length*du=O.length*du+du:=by rw [Xs,XR,Nat.succ_mul]
 refine⟨⟨fun u f=>?_,fun u f=>?_,fun u f=>?_,fun u k f=>?_,fun a o t x=>?_,?_,?_,fun u f=>?_⟩,g,i,l⟩
 . unfold c8;by_cases e:u=v
   . rw [if_pos e]
   . rw [if_neg e];simp [e]at f;exact d.i1 u f
 . rw [r];by_cases e:u=v
   . subst e;simp only [if_true];refine⟨E,fun w h=>?_,by omega⟩;rcases d.front h with j|⟨y,k,j,z⟩
     . exact absurd j g
     . have:=A y k j;omega
   . simp only [e,if_false];simp [e]at f;obtain⟨a,b,c⟩:=d.i2 u f;exact⟨a,b,by omega⟩
 . simp at f;simp only [f.2,if_false];exact d.i2f u f.1
 . unfold c8 at f
   split at f
   . cases f
   . obtain⟨a,m,b,c,e⟩:=d.i3 u k f;exact⟨a,m,b,c,by rw [r];omega⟩
 . simp [x]at t;have p: ¬a.s=v:=x;simp only [p,if_false];rcases d.i4 a o t (fun h=>h)with h|⟨k,j,z⟩
   . exact .inl (by simp [h])
   . by_cases e:a.t=v
     . exact .inl (by simp [e])
     . exact .inr ⟨k,by unfold c8;rw [if_neg e];exact j,z⟩
 . rcases d.i5 with h|h
   . exact .inl (by simp [h])
   . by_cases e:s=v
     . exact .inl (by simp [e])
     . exact .inr (by unfold c8;rw [if_neg e];exact h)
 . rw [Xw];exact⟨d.nd,by simp,fun a o b l e=>g (by simp at l;subst l;subst e;exact o)⟩
 . rcases List.mem_append.1 f with h|h
   . exact d.lt u h
   . simp at h;subst h;exact i
def je(O:List Nat)(K:Nat->Option Int)(u:Nat)(x:Int):Nat->Option Int:=if u∈O then K else match K u with
 |some k=>if k<=x then K else c8 K u (some x)
 |none=>c8 K u (some x)
theorem Dj.relaxed (d:Dj B s N O D K ex) {ex':Arc->Prop} {a:Arc} (t:a∈B) (u:a.s∈O) (w:a.t<N) (m:D a.s+a.w<=O.length*du) (x: ∀b∈B,¬ex' b-> ¬ex b\/b=a):
 Dj B s N O D (je O K a.t ((D a.s+a.w:Nat):Int)) ex':=by
 have f: ∀i,(∀v,v∈O->i v=K v)->(∀v k,i v=some k->K v=some k\/(v=a.t/\k=((D a.s+a.w:Nat):Int)))->(∀v k,K v=some k-> ∃j,i v=some j/\j<=k)->(a.t∈O\/ ∃k:Int,i a.t=some k/\k<=D a.s+a.w)->Dj B s N O D i ex':=by
  intro i y q r z;refine⟨fun v c=>by rw [y v c];exact d.i1 v c,d.i2,d.i2f,fun v k g=>?_,fun b m n o=>?_,?_,d.nd,d.lt⟩
  . rcases q v k g with h|⟨rfl,rfl⟩
    . exact d.i3 v k h
    . exact⟨w,_,rfl,.snoc t (d.i2 _ u).1,m⟩
  . rcases x b m o with h|rfl
    . rcases d.i4 b m n h with h|⟨k,A,E⟩
      . exact .inl h
      . obtain⟨j,l,C⟩:=r _ _ A;exact .inr ⟨j,l,by omega⟩
    . exact z
  . rcases d.i5 with h|h
    . exact .inl h
    . obtain⟨j,l,C⟩:=r _ _ h;rcases q _ _ l with p|⟨p,F⟩
      . rw [h]at p;exact .inr (by rw [l,p])
      . exact .inr (by rw [l];congr 1;omega)
 unfold je;by_cases h:a.t∈O
 . rw [if_pos h];exact f K (fun _ _=>rfl) (fun _ _ h=>.inl h) (fun v k h=>⟨k,h,by omega⟩) (.inl h)
 . rw [if_neg h];have upd:(∀k,K a.t=some k->((D a.s+a.w:Nat):Int)<=k)->Dj B s N O D (c8 K a.t (some ((D a.s+a.w:Nat):Int))) ex':=fun g=>by
    refine f _ (fun v c=>?_) (fun v k c=>?_) (fun v k c=>?_) (.inr ⟨((D a.s+a.w:Nat):Int),by unfold c8;rw [if_pos rfl],by omega⟩)
    . unfold c8;rw [if_neg (fun e=>h (by subst e;exact c))]
    . unfold c8 at c
      split at c
      . rename_i e;cases c;exact .inr ⟨e,rfl⟩
      . exact .inl c
    . unfold c8;by_cases e:v=a.t
      . rw [if_pos e];subst e;exact⟨_,rfl,g k c⟩
      . rw [if_neg e];exact⟨k,c,by omega⟩
   cases g:K a.t with
   |none=>simp only [];exact upd (fun k e=>by rw [g]at e;cases e)
   | some k=>
     simp only []
     split
     . rename_i hle;exact f K (fun _ _=>rfl) (fun _ _ h=>.inl h) (fun v k h=>⟨k,h,by omega⟩) (.inr ⟨k,g,by omega⟩)
     . rename_i hle;exact upd (fun j e=>by rw [g]at e;cases e;omega)
theorem Dj.done(d:Dj B s N O D K (fun _=>False))(f: ∀v,K v=none)(g:N<=12)(v:Nat):IsD B s v (D v):=by
 have j:=Nat.mul_le_mul_right du (Xm d.len g);have:=dR;have:=nH;by_cases h:v∈O
 . obtain⟨a,b,c⟩:=d.i2 v h;exact .inl ⟨by omega,a,b⟩
 . refine .inr ⟨d.i2f v h,fun w i=>?_⟩;rcases d.front i with e|⟨y,k,e,_⟩
   . exact h e
   . rw [f]at e;cases e
end
theorem gC{A:List Arc}{f:Arc->Nat}{j v i:Nat}:i∈outs A f j v↔i<j/\f (A.getD i default)=v:=by unfold outs;rw [List.mem_filter,XO,decide_eq_true_eq]
def dm(a:Arc):Arc:=⟨a.t,a.s,a.w⟩

structure Ls(B:List Arc)(s N:Nat)(l:Nat->Nat):Prop where
 le: ∀v,l v<=FAR
 wk: ∀v,l v=FAR\/Wk B s v (l v)
 s0:l s=0
def cV(l:Nat->Nat)(v x:Nat):Nat->Nat:=fun u=>if u=v then x else l u
theorem Ls.step{B:List Arc}{s N:Nat}{l:Nat->Nat}(h:Ls B s N l){a:Arc}(b:a∈B)(f:l a.s<FAR)(c:l a.s+a.w<l a.t):Ls B s N (cV l a.t (l a.s+a.w)):=by
 have d:=(h.wk a.s).resolve_left (by omega);refine⟨fun v=>?_,fun v=>?_,?_⟩
 . unfold cV;split
   . have:=h.le a.t;omega
   . exact h.le v
 . unfold cV;split
   . rename_i e;subst e;exact .inr (.snoc b d)
   . exact h.wk v
 . unfold cV;split
   . rename_i e;rw [<-e,h.s0]at c;omega
   . exact h.s0
theorem Ls.le_wk{B:List Arc}{s N:Nat}{l:Nat->Nat}(h:Ls B s N l)(b: ∀a∈B,l a.s<FAR->l a.t<=l a.s+a.w){v w:Nat}(k:Wk B s v w):l v<=w:=by
 induction k with
 |nil=>rw [h.s0];omega| @snoc w a c d f=>
   by_cases e:l a.s<FAR
   . have:=b a c e;omega
   . have:=h.le a.t;omega
end Go.Ab

end
section
namespace Go.Ab
def EM(l:List (Int×Value×Nat)):List (Value×Value×Nat):=l.map fun p=>(.int .i64 p.1,p.2.1,p.2.2)
def eI(f:Int->Option Value)(x:Int)(v:Option Value):Int->Option Value:=fun y=>if y=x then v else f y
def d6(a:List (Value×Value×Nat))(c:Nat)(f:Int->Option Value):Prop:=
 ∃l,a=EM l/\(l.map Xu).Nodup/\(l.map fun p=>p.2.2).Nodup/\(∀p∈l,p.2.2<c)/\ ∀x v,f x=some v↔ ∃n,(x,v,n)∈l
theorem tG{x y:Int}:ce (.int .i64 x) (.int .i64 y)=some (decide (x=y)):=by show some (iD x y)=_;congr 1;rw [mZ]
theorem z8{l:List (Int×Value×Nat)}(a:(l.map Xu).Nodup){x:Int}{v:Value}{n:Nat}(h:(x,v,n)∈l):aY (.int .i64 x) (EM l)=some (some (v,n)):=by
 induction l with
 |nil=>cases h
 | cons p l b=>
   obtain⟨y,w,m⟩:=p;show(match ce (.int .i64 x) (.int .i64 y)with|none=>none|some true=>some (some (w,m))|some false=>aY (.int .i64 x) (EM l))=_;rw [tG];grind
theorem find_miss{l:List (Int×Value×Nat)}{x:Int}(h:x∉l.map Xu):aY (.int .i64 x) (EM l)=some none:=by
 induction l with
 |nil=>rfl| cons p l a=>
   obtain⟨y,w,m⟩:=p;show(match ce (.int .i64 x) (.int .i64 y)with|none=>none|some true=>some (some (w,m))|some false=>aY (.int .i64 x) (EM l))=_;simp_all[tG,XG,XI,not_or,decide_eq_false]
theorem sI{l:List (Int×Value×Nat)}(c:(l.map Xu).Nodup){x:Int}{v:Value}{n:Nat}(h:(x,v,n)∈l):
 ∃a b,l=a++(x,v,n)::b/\(∀w,jb (.int .i64 x) w (EM l)=EM (a++(x,w,n)::b))/\kE (.int .i64 x) (EM l)=EM (a++b):=by
 induction l with
 |nil=>cases h
 | cons p l d=>
   obtain⟨y,w,m⟩:=p;rw [XG,XN]at c;by_cases e:x=y
   . subst e;rcases List.mem_cons.1 h with h|h
     . cases h;refine⟨[],l,rfl,fun u=>?_,?_⟩
       . show(match ce (.int .i64 x) (.int .i64 x)with|some true=>_|_=>_)=_;rw [tG,decide_eq_true rfl];rfl
       . show(match ce (.int .i64 x) (.int .i64 x)with|some true=>_|_=>_)=_;rw [tG,decide_eq_true rfl];rfl
     grind
   . rcases List.mem_cons.1 h with h|h
     . grind
     grind[ce,jb,EM,tG,decide_eq_false,kE]
theorem uq{a b:List (Int×Value×Nat)}{x:Int}{v w:Value}{n:Nat}(c:((a++(x,v,n)::b).map fun p=>p.2.2).Nodup):iL n w (EM (a++(x,v,n)::b))=some (EM (a++(x,w,n)::b)):=by
 induction a with
 | nil=>
   show(bif Nat.beq n n then _ else _)=_;rw [Nat.beq_refl];rfl
 | cons p a d=>
   obtain⟨y,u,m⟩:=p;rw [List.cons_append,XG,XN]at c;grind[Nat.beq,XQ,absurd,iL,EM]
theorem fst_app{a b:List (Int×Value×Nat)}{x:Int}{v:Value}{n:Nat}:(a++(x,v,n)::b).map Xu=a.map Xu++x::b.map Xu:=by simp
section
variable{es:List (Value×Value×Nat)}{c:Nat}{f:Int->Option Value}{x:Int}
theorem rt:d6 [] 0 (fun _=>none):=⟨[],rfl,.nil,.nil,fun _ h=>(by cases h),fun x v=>⟨fun h=>(by cases h),fun⟨_,h⟩=>(by cases h)⟩⟩
theorem d6.hit(h:d6 es c f){v:Value}(hf:f x=some v): ∃n,aY (.int .i64 x) es=some (some (v,n)):=by obtain⟨l,rfl,a,b,d,e⟩:=h;grind[hf,z8]
theorem d6.miss(h:d6 es c f)(hf:f x=none):aY (.int .i64 x) es=some none:=by obtain⟨l,rfl,e,g,i,a⟩:=h;refine find_miss fun b=>?_;obtain⟨⟨y,v,n⟩,d,rfl⟩:=List.mem_map.1 b;have:=(a y v).2 ⟨n,d⟩;grind
theorem uJ{a b:List (Int×Value×Nat)}{v w:Value}{n:Nat}(e:((a++(x,v,n)::b).map Xu).Nodup)(j:((a++(x,v,n)::b).map fun p=>p.2.2).Nodup)(g: ∀p∈a++(x,v,n)::b,p.2.2<c)
 (k: ∀x' v',f x'=some v'↔ ∃h,(x',v',h)∈a++(x,v,n)::b):d6 (EM (a++(x,w,n)::b)) c (eI f x (some w)):=by
 have i:=e;rw [fst_app,Xw]at i;refine⟨_,rfl,by grind,by grind,fun p d=>?_,fun y u=>?_⟩
 . rcases List.mem_append.1 d with d|d
   . grind
   . rcases List.mem_cons.1 d with rfl|d
     . exact g (x,v,n) (by simp)
     grind
 . unfold eI;grind
theorem uA{l:List (Int×Value×Nat)}{w:Value}(g:(l.map Xu).Nodup)(h:(l.map fun p=>p.2.2).Nodup)(i: ∀p∈l,p.2.2<c)(b: ∀x' v',f x'=some v'↔ ∃d,(x',v',d)∈l)(hf:f x=none):
 d6 (EM (l++[(x,w,c)])) (c+1) (eI f x (some w)):=by
 have j:x∉l.map Xu:=fun e=>by obtain⟨⟨y,v,n⟩,a,rfl⟩:=List.mem_map.1 e;have:=(b y v).2 ⟨n,a⟩;grind
 refine⟨_,rfl,?_,?_,fun p a=>?_,fun y u=>?_⟩
 . grind
 . grind
 . grind
 . unfold eI;grind
theorem em_app(l:List (Int×Value×Nat))(v:Value)(n:Nat):EM l++[(.int .i64 x,v,n)]=EM (l++[(x,v,n)]):=by unfold EM;grind
theorem d6.put(h:d6 es c f)(v:Value): ∃es' c',(match aY (.int .i64 x) es with|none=>none|some (some _)=>some (jb (.int .i64 x) v es,c)|some none=>some (es++[(.int .i64 x,v,c)],c+1))=some (es',c')/\d6 es' c' (eI f x (some v)):=by
 cases hf:f x with
 | none=>
   rw [h.miss hf];obtain⟨l,rfl,d,i,j,g⟩:=h;exact⟨_,_,rfl,by rw [em_app];exact uA d i j g hf⟩
 | some w=>
   obtain⟨n,e⟩:=h.hit hf;rw [e];obtain⟨l,rfl,d,i,j,g⟩:=h;obtain⟨m,k⟩:=(g x w).1 hf;obtain⟨a,b,rfl,o,_⟩:=sI d k;exact⟨_,_,rfl,by rw [o];exact uJ d i j g⟩
theorem del_miss{l:List (Int×Value×Nat)}(h:x∉l.map Xu):kE (.int .i64 x) (EM l)=EM l:=by
 induction l with
 |nil=>rfl| cons p l a=>
   obtain⟨y,w,m⟩:=p;simp only [XG,XI,not_or]at h;grind[ce,kE,EM,tG,decide_eq_false]
theorem d6.del(h:d6 es c f):d6 (kE (.int .i64 x) es) c (eI f x none):=by
 obtain⟨l,rfl,d,o,g,i⟩:=h;cases hf:f x with
 | none=>
   have q:x∉l.map Xu:=fun e=>(by obtain⟨⟨y,v,n⟩,j,rfl⟩:=List.mem_map.1 e;have:=(i y v).2 ⟨n,j⟩;grind);rw [del_miss q];refine⟨l,rfl,d,o,g,fun y u=>?_⟩;unfold eI;grind
 | some w=>
   obtain⟨m,e⟩:=(i x w).1 hf;obtain⟨a,b,rfl,_,r⟩:=sI d e;rw [r];have k:=d;rw [fst_app,Xw]at k;obtain⟨t,s,z⟩:=k;rw [XN]at s;refine⟨a++b,rfl,?_,?_,fun p j=>g p ?_,fun y u=>?_⟩
   . grind
   . grind
   . grind
   . unfold eI;grind
theorem d6.ent(h:d6 es c f)(z:Value): ∃d q n,(match aY (.int .i64 x) es with|none=>none|some (some (v,n))=>some (jb (.int .i64 x) v es,c,v,n)|some none=>some (es++[(.int .i64 x,z,c)],c+1,z,c))=some (d,q,(f x).getD z,n)/\d6 d q (eI f x (some ((f x).getD z)))/\
 ∀w,∃es2,iL n w d=some es2/\d6 es2 q (eI f x (some w)):=by
 cases hf:f x with
 | none=>
   rw [h.miss hf];obtain⟨l,rfl,g,i,o,j⟩:=h;have k:=uA (w:=z) g i o j hf;refine⟨_,_,_,rfl,by rw [em_app];exact k,fun w=>?_⟩;rw [em_app];obtain⟨u,e,y,A,B,C⟩:=k;have t:((l++(x,z,c)::[]).map fun p=>p.2.2).Nodup:=(by grind);exact⟨_,uq t,uA g i o j hf⟩
 | some v=>
   obtain⟨l,rfl,g,i,o,j⟩:=h;obtain⟨m,r⟩:=(j x v).1 hf;rw [z8 g r];obtain⟨a,b,rfl,s,_⟩:=sI g r;refine⟨_,_,_,rfl,by rw [s];exact uJ g i o j,fun w=>?_⟩;rw [s];exact⟨_,uq (by simpa using i),uJ g i o j⟩
end

section
variable{M:Nat->Prop}{h0 h:Hp}{L:List (Nat×Ob)}{G:List GL}{E:Env}{t kt el:TypeId}{b c:Nat}{es:List (Value×Value×Nat)}{f:Int->Option Value}{x:Int}
theorem sf(a:E.und kt=some (.int .i64)):bD E kt (.int .i64 x)=true:=by simp only [bD,a];rfl
theorem ra(a:E.und t=some (.map kt el))(d:E.und kt=some (.int .i64)){z:Value}(g:E.zeroV el=some z)(i:h.get b=some (.map es c))(m:d6 es c f):
 dE E h t (.map (some b)) (.int .i64 x) true=some (.tuple #[(f x).getD z,.bool (f x).isSome]):=by
 simp only [dE,a,sf d,cond_true,i];cases hf:f x with
 |none=>rw [m.miss hf];simp [g]|some v=>obtain⟨n,e⟩:=m.hit hf;rw [e];simp
theorem qR(a:E.und t=some (.map kt el))(d:E.und kt=some (.int .i64)){z:Value}(g:E.zeroV el=some z)(i:h.get b=some (.map es c))(m:d6 es c f):
 dE E h t (.map (some b)) (.int .i64 x) false=some ((f x).getD z):=by
 simp only [dE,a,sf d,cond_true,i];cases hf:f x with
 |none=>rw [m.miss hf];simp [g]|some v=>obtain⟨n,e⟩:=m.hit hf;rw [e];simp
theorem pk{x:Blk}{es':List (Value×Value×Nat)}{c':Nat}(a:h.get b=some x):(h.put b (.map es' c')).get b=some (.map es' c'):=by rw [Hp.get_put,if_pos ⟨rfl,by rw [a];rfl⟩]
theorem St.mputI(S:St M h0 h L G){i:Nat}(d:L[i]? =some (b,.map es c))(g:E.und t=some (.map kt el))(j:E.und kt=some (.int .i64))(m:d6 es c f)(v:Value):
 ∃a,dZ E h t (.map (some b)) (.int .i64 x) v=some a/\Mo (· =b) h a/\ ∃es' c',d6 es' c' (eI f x (some v))/\St M h0 a (L.set i (b,.map es' c')) G:=by
 have e:h.get b=some (.map es c):=(S.own _ (Xh d)).2;obtain⟨es',c',l,k⟩:=m.put (x:=x) v;refine⟨h.put b (.map es' c'),?_,(Mo.refl (M:=(· =b)) S.ok).put (.inr rfl) _,es',c',k,S.put d (o':=.map es' c') (pk e)⟩;simp only [dZ,jy,g,sf j,cond_true,e];grind
theorem St.mdelI(S:St M h0 h L G){i:Nat}(d:L[i]? =some (b,.map es c))(j:E.und t=some (.map kt el))(k:E.und kt=some (.int .i64))(m:d6 es c f):
 ∃a,mI E h t (.map (some b)) (.int .i64 x)=some a/\Mo (· =b) h a/\ ∃es' c',d6 es' c' (eI f x none)/\St M h0 a (L.set i (b,.map es' c')) G:=by
 have g:h.get b=some (.map es c):=(S.own _ (Xh d)).2;refine⟨h.put b (.map (kE (.int .i64 x) es) c),?_,(Mo.refl (M:=(· =b)) S.ok).put (.inr rfl) _,_,c,m.del (x:=x),S.put d (o':=.map _ c) (pk g)⟩;simp only [mI,jy,j,sf k,cond_true,g];cases hf:f x with
 |none=>rw [m.miss hf]|some v=>obtain⟨n,e⟩:=m.hit hf;rw [e]
theorem St.mentI(S:St M h0 h L G){i:Nat}(d:L[i]? =some (b,.map es c))(g:E.und t=some (.map kt el))(j:E.und kt=some (.int .i64)){z:Value}(k:E.zeroV el=some z)(m:d6 es c f):
 ∃ a n,jF E h t (.map (some b)) (.int .i64 x)=some (a,.tuple #[(f x).getD z,.int .i64 (Int.ofNat n)])/\Mo (· =b) h a/\ ∃es' c',d6 es' c' (eI f x (some ((f x).getD z)))/\St M h0 a (L.set i (b,.map es' c')) G/\
   ∀w,∃es2,iL n w es'=some es2/\d6 es2 c' (eI f x (some w)):=by
 have e:h.get b=some (.map es c):=(S.own _ (Xh d)).2;obtain⟨es',c',n,p,l,o⟩:=m.ent (x:=x) z;refine⟨h.put b (.map es' c'),n,?_,(Mo.refl (M:=(· =b)) S.ok).put (.inr rfl) _,es',c',l,S.put d (o':=.map es' c') (pk e),o⟩;simp only [jF,jy,g,sf j,cond_true,e,k];grind
theorem St.mstoreI(S:St M h0 h L G){i n:Nat}(d:L[i]? =some (b,.map es c)){w:Value}{es2:List (Value×Value×Nat)}(g:iL n w es=some es2):
 ∃a,lC h (.map (some b)) (.int .i64 (Int.ofNat n)) w=some a/\Mo (· =b) h a/\St M h0 a (L.set i (b,.map es2 c)) G:=by
 have e:h.get b=some (.map es c):=(S.own _ (Xh d)).2;refine⟨h.put b (.map es2 c),?_,(Mo.refl (M:=(· =b)) S.ok).put (.inr rfl) _,S.put d (o':=.map es2 c) (pk e)⟩;simp only [lC,e,iA,g]
end
end Go.Ab

end

/- Nets, cells, flags: what the functions do (part 1). -/
import Derived.Test.YtoifagpcndmlgaaGreatDoorEnv
open Go.Ab.Tryz
open Go.Ab.Tryz renaming abEnv->zB
open List renaming range->zM,take->Xa,drop->Xb,getD_eq_getElem?_getD->Xd,getElem?_append_right->Xh,getElem?_append_left->Xj,flatMap_append->Xm,length_append->Xn,getElem?_eq_getElem->Xo,getElem?_map->Xp,take_succ_cons->Xq,mem_of_getElem?->Xs,ext_getElem?->Xt,drop_zero->Xu,take_zero->Xv,getElem_mem->Xx,length_flatMap->Xz,map_const'->XA,append_nil->XB,getElem?_set->XE,nodup_append->XF,range_succ->XH,length_set->XI,mem_range->XK,length_filter_le->XL,length_singleton->XM,flatMap_eq_foldl->XN,getElem?_eq_none->XO,getElem?_append->XP,drop_succ_cons->XQ
open And renaming intro->zO
open Nat renaming lt_of_succ_le->Xc,zero_add->Xe,mul_one->Xf,zero_mul->Xg,one_mul->Xi,le_trans->Xl,ble_eq_true_of_le->Xw,le_refl->XD,zero_le->XJ
open Int renaming cast_ofNat_Int->Xk,tmod_eq_emod_of_nonneg->Xy,toNat_natCast->XC
open Bool renaming and_true->Xr
open Option renaming getD_some->XG
set_option maxHeartbeats 4000000
set_option linter.defProp false
set_option linter.unusedVariables false
set_option linter.unusedSimpArgs false
section
namespace Go.Ab
theorem Si{h:Hp}(a:h.t.Sized h.n):St NoM h h [] []:=St.init a
theorem aj{a b:Prop}(x:a)(y:b):a/\b:=⟨x,y⟩
set_option linter.defProp false in
def LC:=zO @List.set_cons_zero.{0}<|zO @List.set_cons_succ.{0}<|zO @List.cons_append.{0}<|zO @List.nil_append.{0}<|zO @List.append_nil.{0}<|zO @List.length_cons.{0}<|zO @List.length_nil.{0}<|@Nat.add_zero
theorem lbt{a b:Nat}(h:Nat.ble a b=true):a<=b:=Nat.le_of_ble_eq_true h
theorem ono:(1:Nat)≠0:=Nat.one_ne_zero
set_option linter.defProp false in
def LB:=zO @if_true.{1}<|zO @if_false.{1}<|zO @eq_self.{1}<|zO @List.map_cons.{0,0}<|zO @List.map_nil.{0,0}<|zO @List.append_nil.{0}<|zO @List.nil_append.{0}<|zO @List.cons_append.{0}<|zO @List.getElem?_cons_zero.{0}<|zO @List.getElem?_cons_succ.{0}<|zO @List.set_cons_zero.{0}<|zO @List.set_cons_succ.{0}<|zO @List.length_cons.{0}<|zO @List.length_nil.{0}<|zO @Nat.add_zero<|zO @Nat.zero_add<|zO @Nat.mul_one<|zO @Nat.zero_mul<|zO @cond_true.{1}<|zO @cond_false.{1}<|zO @decide_true<|zO @decide_false<|zO @Bool.and_true<|zO @Bool.and_false<|zO @Bool.not_false<|zO @Bool.not_true<|zO @true_and<|zO @and_true<|zO @Option.isSome_some.{0}<|@List.map_toArray.{0,0}
open Go.Proofs
namespace Tryz
abbrev TQ0(i:TypeId)(A:Bool)(S:Nat)(Z:List Value):Prop:=abEnv.agg i=some A/\abEnv.sz i=some S/\abEnv.zero i=some Z/\dz zB i=some false
theorem kTQ0{i:TypeId}{A:Bool}{S:Nat}{Z:List Value}(h:(abEnv.agg i,abEnv.sz i,abEnv.zero i,dz zB i)=(some A,some S,some Z,some false)):TQ0 i A S Z:=by simpa only [Prod.mk.injEq]using h
abbrev TQ1(i:TypeId)(U:TypeDesc)(A:Bool)(S:Nat)(Z:List Value):Prop:=abEnv.und i=some U/\abEnv.agg i=some A/\abEnv.sz i=some S/\abEnv.zero i=some Z/\jH zB i=true
theorem kTQ1{i:TypeId}{U:TypeDesc}{A:Bool}{S:Nat}{Z:List Value}(h:(abEnv.und i,abEnv.agg i,abEnv.sz i,abEnv.zero i,jH zB i)=(some U,some A,some S,some Z,true)):TQ1 i U A S Z:=by simpa only [Prod.mk.injEq]using h
abbrev TQ2(i:TypeId)(U:TypeDesc)(A:Bool)(S:Nat)(Z:List Value):Prop:=abEnv.und i=some U/\abEnv.agg i=some A/\abEnv.sz i=some S/\abEnv.zero i=some Z/\dz zB i=some false
theorem kTQ2{i:TypeId}{U:TypeDesc}{A:Bool}{S:Nat}{Z:List Value}(h:(abEnv.und i,abEnv.agg i,abEnv.sz i,abEnv.zero i,dz zB i)=(some U,some A,some S,some Z,some false)):TQ2 i U A S Z:=by simpa only [Prod.mk.injEq]using h
abbrev TQ3(i:TypeId)(A:Bool)(S:Nat)(Z:List Value)(P:List (Nat×Nat)):Prop:=abEnv.agg i=some A/\abEnv.sz i=some S/\abEnv.zero i=some Z/\jH zB i=true/\dz zB i=some false/\placesOf zB i=some P
theorem kTQ3{i:TypeId}{A:Bool}{S:Nat}{Z:List Value}{P:List (Nat×Nat)}(h:(abEnv.agg i,abEnv.sz i,abEnv.zero i,jH zB i,dz zB i,placesOf zB i)=(some A,some S,some Z,true,some false,some P)):TQ3 i A S Z P:=by simpa only [Prod.mk.injEq]using h
abbrev TQ4(i:TypeId)(U:TypeDesc)(A:Bool)(S:Nat)(Z:List Value):Prop:=abEnv.und i=some U/\abEnv.agg i=some A/\abEnv.sz i=some S/\abEnv.zero i=some Z/\me zB i=true/\jH zB i=true/\dz zB i=some false
theorem kTQ4{i:TypeId}{U:TypeDesc}{A:Bool}{S:Nat}{Z:List Value}(h:(abEnv.und i,abEnv.agg i,abEnv.sz i,abEnv.zero i,me zB i,jH zB i,dz zB i)=(some U,some A,some S,some Z,true,true,some false)):TQ4 i U A S Z:=by simpa only [Prod.mk.injEq]using h
abbrev TQ5(i:TypeId)(A:Bool)(S:Nat)(Z:List Value):Prop:=abEnv.agg i=some A/\abEnv.sz i=some S/\abEnv.zero i=some Z/\isIface zB i=true/\dz zB i=some false
theorem kTQ5{i:TypeId}{A:Bool}{S:Nat}{Z:List Value}(h:(abEnv.agg i,abEnv.sz i,abEnv.zero i,isIface zB i,dz zB i)=(some A,some S,some Z,true,some false)):TQ5 i A S Z:=by simpa only [Prod.mk.injEq]using h
abbrev TQ6(i:TypeId)(U:TypeDesc)(A:Bool)(S:Nat)(Z:List Value):Prop:=abEnv.und i=some U/\abEnv.agg i=some A/\abEnv.sz i=some S/\abEnv.zero i=some Z/\isSl zB i=true/\dz zB i=some false
theorem kTQ6{i:TypeId}{U:TypeDesc}{A:Bool}{S:Nat}{Z:List Value}(h:(abEnv.und i,abEnv.agg i,abEnv.sz i,abEnv.zero i,isSl zB i,dz zB i)=(some U,some A,some S,some Z,true,some false)):TQ6 i U A S Z:=by simpa only [Prod.mk.injEq]using h
abbrev TQ7(i:TypeId)(A:Bool)(S:Nat)(Z:List Value):Prop:=abEnv.agg i=some A/\abEnv.sz i=some S/\abEnv.zero i=some Z/\jH zB i=true/\dz zB i=some false
theorem kTQ7{i:TypeId}{A:Bool}{S:Nat}{Z:List Value}(h:(abEnv.agg i,abEnv.sz i,abEnv.zero i,jH zB i,dz zB i)=(some A,some S,some Z,true,some false)):TQ7 i A S Z:=by simpa only [Prod.mk.injEq]using h
abbrev TR0(i:TypeId)(f o1 o2 o3:Nat):Prop:=(∀(b o:Nat) (s:Option Nat),aA zB i (.pointer (some ⟨b,o,s⟩)) 0=some (.pointer (some ⟨b,o+f,none⟩))/\aA zB i (.pointer (some ⟨b,o,s⟩)) 1=some (.pointer (some ⟨b,o+o1,none⟩))/\aA zB i (.pointer (some ⟨b,o,s⟩)) 2=some (.pointer (some ⟨b,o+o2,none⟩))/\aA zB i (.pointer (some ⟨b,o,s⟩)) 3=some (.pointer (some ⟨b,o+o3,none⟩)))/\ ∀a c d e:Value,a9 zB i (.agg ⟨[a,c,d,e]⟩) 0=some a/\a9 zB i (.agg ⟨[a,c,d,e]⟩) 1=some c/\a9 zB i (.agg ⟨[a,c,d,e]⟩) 2=some d/\a9 zB i (.agg ⟨[a,c,d,e]⟩) 3=some e
abbrev TR1(i:TypeId)(d o1:Nat):Prop:=(∀(b o:Nat) (s:Option Nat),aA zB i (.pointer (some ⟨b,o,s⟩)) 0=some (.pointer (some ⟨b,o+d,none⟩))/\aA zB i (.pointer (some ⟨b,o,s⟩)) 1=some (.pointer (some ⟨b,o+o1,none⟩)))/\ ∀a c:Value,a9 zB i (.agg ⟨[a,c]⟩) 0=some a/\a9 zB i (.agg ⟨[a,c]⟩) 1=some c
abbrev TR2(i:TypeId)(c:Nat):Prop:=(∀(b o:Nat) (s:Option Nat),aA zB i (.pointer (some ⟨b,o,s⟩)) 0=some (.pointer (some ⟨b,o+c,none⟩)))/\ ∀a:Value,a9 zB i (.agg ⟨[a]⟩) 0=some a
abbrev TR3(i:TypeId)(g o1 o2 o3 h:Nat):Prop:=(∀(b o:Nat) (s:Option Nat),aA zB i (.pointer (some ⟨b,o,s⟩)) 0=some (.pointer (some ⟨b,o+g,none⟩))/\aA zB i (.pointer (some ⟨b,o,s⟩)) 1=some (.pointer (some ⟨b,o+o1,none⟩))/\aA zB i (.pointer (some ⟨b,o,s⟩)) 2=some (.pointer (some ⟨b,o+o2,none⟩))/\aA zB i (.pointer (some ⟨b,o,s⟩)) 3=some (.pointer (some ⟨b,o+o3,none⟩))/\aA zB i (.pointer (some ⟨b,o,s⟩)) 4=some (.pointer (some ⟨b,o+h,none⟩)))/\ ∀a c d e f:Value,a9 zB i (.agg ⟨[a,c,d,e,f]⟩) 0=some a/\a9 zB i (.agg ⟨[a,c,d,e,f]⟩) 1=some c/\a9 zB i (.agg ⟨[a,c,d,e,f]⟩) 2=some d/\a9 zB i (.agg ⟨[a,c,d,e,f]⟩) 3=some e/\a9 zB i (.agg ⟨[a,c,d,e,f]⟩) 4=some f
abbrev TR4(i:TypeId)(e o1 o2:Nat):Prop:=(∀(b o:Nat) (s:Option Nat),aA zB i (.pointer (some ⟨b,o,s⟩)) 0=some (.pointer (some ⟨b,o+e,none⟩))/\aA zB i (.pointer (some ⟨b,o,s⟩)) 1=some (.pointer (some ⟨b,o+o1,none⟩))/\aA zB i (.pointer (some ⟨b,o,s⟩)) 2=some (.pointer (some ⟨b,o+o2,none⟩)))/\ ∀a c d:Value,a9 zB i (.agg ⟨[a,c,d]⟩) 0=some a/\a9 zB i (.agg ⟨[a,c,d]⟩) 1=some c/\a9 zB i (.agg ⟨[a,c,d]⟩) 2=some d
abbrev TR5(i:TypeId)(h o1 o2:Nat):Prop:=(∀(b o:Nat) (s:Option Nat),aA zB i (.pointer (some ⟨b,o,s⟩)) 0=some (.pointer (some ⟨b,o+h,none⟩))/\aA zB i (.pointer (some ⟨b,o,s⟩)) 1=some (.pointer (some ⟨b,o+o1,none⟩))/\aA zB i (.pointer (some ⟨b,o,s⟩)) 2=some (.pointer (some ⟨b,o+o2,none⟩)))/\ ∀a c d e f g:Value,a9 zB i (.agg ⟨[a,c,d,e,f,g]⟩) 0=some (.agg ⟨[a,c,d,e]⟩)/\a9 zB i (.agg ⟨[a,c,d,e,f,g]⟩) 1=some f/\a9 zB i (.agg ⟨[a,c,d,e,f,g]⟩) 2=some g
abbrev TR6(i:TypeId)(p o1 o2 o3 q r t u v w n:Nat):Prop:=(∀(b o:Nat) (s:Option Nat),aA zB i (.pointer (some ⟨b,o,s⟩)) 0=some (.pointer (some ⟨b,o+p,none⟩))/\aA zB i (.pointer (some ⟨b,o,s⟩)) 1=some (.pointer (some ⟨b,o+o1,none⟩))/\aA zB i (.pointer (some ⟨b,o,s⟩)) 2=some (.pointer (some ⟨b,o+o2,none⟩))/\aA zB i (.pointer (some ⟨b,o,s⟩)) 3=some (.pointer (some ⟨b,o+o3,none⟩))/\aA zB i (.pointer (some ⟨b,o,s⟩)) 4=some (.pointer (some ⟨b,o+q,none⟩))/\aA zB i (.pointer (some ⟨b,o,s⟩)) 5=some (.pointer (some ⟨b,o+r,none⟩))/\aA zB i (.pointer (some ⟨b,o,s⟩)) 6=some (.pointer (some ⟨b,o+t,none⟩))/\aA zB i (.pointer (some ⟨b,o,s⟩)) 7=some (.pointer (some ⟨b,o+u,none⟩))/\aA zB i (.pointer (some ⟨b,o,s⟩)) 8=some (.pointer (some ⟨b,o+v,none⟩))/\aA zB i (.pointer (some ⟨b,o,s⟩)) 9=some (.pointer (some ⟨b,o+w,none⟩))/\aA zB i (.pointer (some ⟨b,o,s⟩)) 10=some (.pointer (some ⟨b,o+n,none⟩)))/\ ∀c d e f g h j k l m a:Value,a9 zB i (.agg ⟨[c,d,e,f,g,h,j,k,l,m,a]⟩) 0=some c/\a9 zB i (.agg ⟨[c,d,e,f,g,h,j,k,l,m,a]⟩) 1=some d/\a9 zB i (.agg ⟨[c,d,e,f,g,h,j,k,l,m,a]⟩) 2=some e/\a9 zB i (.agg ⟨[c,d,e,f,g,h,j,k,l,m,a]⟩) 3=some f/\a9 zB i (.agg ⟨[c,d,e,f,g,h,j,k,l,m,a]⟩) 4=some g/\a9 zB i (.agg ⟨[c,d,e,f,g,h,j,k,l,m,a]⟩) 5=some h/\a9 zB i (.agg ⟨[c,d,e,f,g,h,j,k,l,m,a]⟩) 6=some j/\a9 zB i (.agg ⟨[c,d,e,f,g,h,j,k,l,m,a]⟩) 7=some k/\a9 zB i (.agg ⟨[c,d,e,f,g,h,j,k,l,m,a]⟩) 8=some l/\a9 zB i (.agg ⟨[c,d,e,f,g,h,j,k,l,m,a]⟩) 9=some m/\a9 zB i (.agg ⟨[c,d,e,f,g,h,j,k,l,m,a]⟩) 10=some a
abbrev TR7(i:TypeId)(h o1 o2 o3 j k:Nat):Prop:=(∀(b o:Nat) (s:Option Nat),aA zB i (.pointer (some ⟨b,o,s⟩)) 0=some (.pointer (some ⟨b,o+h,none⟩))/\aA zB i (.pointer (some ⟨b,o,s⟩)) 1=some (.pointer (some ⟨b,o+o1,none⟩))/\aA zB i (.pointer (some ⟨b,o,s⟩)) 2=some (.pointer (some ⟨b,o+o2,none⟩))/\aA zB i (.pointer (some ⟨b,o,s⟩)) 3=some (.pointer (some ⟨b,o+o3,none⟩))/\aA zB i (.pointer (some ⟨b,o,s⟩)) 4=some (.pointer (some ⟨b,o+j,none⟩))/\aA zB i (.pointer (some ⟨b,o,s⟩)) 5=some (.pointer (some ⟨b,o+k,none⟩)))/\ ∀a c d e f g:Value,a9 zB i (.agg ⟨[a,c,d,e,f,g]⟩) 0=some a/\a9 zB i (.agg ⟨[a,c,d,e,f,g]⟩) 1=some c/\a9 zB i (.agg ⟨[a,c,d,e,f,g]⟩) 2=some d/\a9 zB i (.agg ⟨[a,c,d,e,f,g]⟩) 3=some e/\a9 zB i (.agg ⟨[a,c,d,e,f,g]⟩) 4=some f/\a9 zB i (.agg ⟨[a,c,d,e,f,g]⟩) 5=some g
abbrev TR8(i:TypeId)(g o1 o2:Nat):Prop:=(∀(b o:Nat) (s:Option Nat),aA zB i (.pointer (some ⟨b,o,s⟩)) 0=some (.pointer (some ⟨b,o+g,none⟩))/\aA zB i (.pointer (some ⟨b,o,s⟩)) 1=some (.pointer (some ⟨b,o+o1,none⟩))/\aA zB i (.pointer (some ⟨b,o,s⟩)) 2=some (.pointer (some ⟨b,o+o2,none⟩)))/\ ∀a c d e f:Value,a9 zB i (.agg ⟨[a,c,d,e,f]⟩) 0=some a/\a9 zB i (.agg ⟨[a,c,d,e,f]⟩) 1=some (.agg ⟨[c,d,e]⟩)/\a9 zB i (.agg ⟨[a,c,d,e,f]⟩) 2=some f
abbrev TR9(i:TypeId)(e o1:Nat):Prop:=(∀(b o:Nat) (s:Option Nat),aA zB i (.pointer (some ⟨b,o,s⟩)) 0=some (.pointer (some ⟨b,o+e,none⟩))/\aA zB i (.pointer (some ⟨b,o,s⟩)) 1=some (.pointer (some ⟨b,o+o1,none⟩)))/\ ∀a c d:Value,a9 zB i (.agg ⟨[a,c,d]⟩) 0=some (.agg ⟨[a,c]⟩)/\a9 zB i (.agg ⟨[a,c,d]⟩) 1=some d
theorem t1:TQ0 1 false 1 [.nilFunc]:=kTQ0 (by kernel_rfl)
theorem t2:TQ1 2 (.int .i64) false 1 [.int .i64 0]:=kTQ1 (by kernel_rfl)
theorem e2E:dE zB 2 8 1 [.int .i64 0]:=⟨⟨_,rfl,by kernel_rfl,by kernel_rfl⟩,t2.2.2.2.1,rfl⟩
theorem t3:TQ1 3 (.int .i64) false 1 [.int .i64 0]:=kTQ1 (by kernel_rfl)
theorem e3E:dE zB 3 8 1 [.int .i64 0]:=⟨⟨_,rfl,by kernel_rfl,by kernel_rfl⟩,t3.2.2.2.1,rfl⟩
theorem t4:TQ2 4 .bool false 1 [.bool false]:=kTQ2 (by kernel_rfl)
theorem e4E:dE zB 4 1 1 [.bool false]:=⟨⟨_,rfl,by kernel_rfl,by kernel_rfl⟩,t4.2.2.2.1,rfl⟩
theorem t5:TQ1 5 (.int .u8) false 1 [.int .u8 0]:=kTQ1 (by kernel_rfl)
theorem e5E:dE zB 5 1 1 [.int .u8 0]:=⟨⟨_,rfl,by kernel_rfl,by kernel_rfl⟩,t5.2.2.2.1,rfl⟩
theorem t6:TQ1 6 (.int .u8) false 1 [.int .u8 0]:=kTQ1 (by kernel_rfl)
theorem t7:TQ3 7 true 4 [.int .i64 0,.int .i64 0,.bool false,.int .u8 0] [(0,1),(1,1),(2,1),(3,1)]:=kTQ3 (by kernel_rfl)
theorem r7:TR0 7 0 1 2 3:=⟨fun _ _ _=>⟨rfl,rfl,rfl,rfl⟩,fun _ _ _ _=>⟨rfl,rfl,rfl,rfl⟩⟩
theorem t8:TQ3 8 true 4 [.int .i64 0,.int .i64 0,.bool false,.int .u8 0] [(0,1),(1,1),(2,1),(3,1)]:=kTQ3 (by kernel_rfl)
theorem r8:TR0 8 0 1 2 3:=⟨fun _ _ _=>⟨rfl,rfl,rfl,rfl⟩,fun _ _ _ _=>⟨rfl,rfl,rfl,rfl⟩⟩
theorem t9:TQ2 9 .string false 1 [.string ⟨#[]⟩]:=kTQ2 (by kernel_rfl)
theorem t10:TQ2 10 .string false 1 [.string ⟨#[]⟩]:=kTQ2 (by kernel_rfl)
theorem t11:TQ2 11 .string false 1 [.string ⟨#[]⟩]:=kTQ2 (by kernel_rfl)
theorem t12:TQ1 12 (.int .u64) false 1 [.int .u64 0]:=kTQ1 (by kernel_rfl)
theorem t13:TQ3 13 true 2 [.string ⟨#[]⟩,.int .u64 0] [(0,1),(1,1)]:=kTQ3 (by kernel_rfl)
theorem r13:TR1 13 0 1:=⟨fun _ _ _=>⟨rfl,rfl⟩,fun _ _=>⟨rfl,rfl⟩⟩
theorem t14:TQ3 14 true 2 [.string ⟨#[]⟩,.int .u64 0] [(0,1),(1,1)]:=kTQ3 (by kernel_rfl)
theorem r14:TR1 14 0 1:=⟨fun _ _ _=>⟨rfl,rfl⟩,fun _ _=>⟨rfl,rfl⟩⟩
theorem t15:TQ4 15 (.pointer 355) false 1 [.pointer none]:=kTQ4 (by kernel_rfl)
theorem t16:TQ4 16 (.pointer 358) false 1 [.pointer none]:=kTQ4 (by kernel_rfl)
theorem t17:TQ4 17 (.pointer 365) false 1 [.pointer none]:=kTQ4 (by kernel_rfl)
theorem t18:TQ3 18 true 1 [.pointer none] [(0,1)]:=kTQ3 (by kernel_rfl)
theorem r18:TR2 18 0:=⟨fun _ _ _=>rfl,fun _=>rfl⟩
theorem t19:TQ3 19 true 1 [.pointer none] [(0,1)]:=kTQ3 (by kernel_rfl)
theorem r19:TR2 19 0:=⟨fun _ _ _=>rfl,fun _=>rfl⟩
theorem t20:TQ5 20 false 1 [.nilIface]:=kTQ5 (by kernel_rfl)
theorem t21:TQ1 21 (.int .i32) false 1 [.int .i32 0]:=kTQ1 (by kernel_rfl)
theorem t22:TQ6 22 (.slice 5) false 1 [.slice none 0 0]:=kTQ6 (by kernel_rfl)
theorem t23:TQ6 23 (.slice 2) false 1 [.slice none 0 0]:=kTQ6 (by kernel_rfl)
theorem e23E:dE zB 23 24 1 [.slice none 0 0]:=⟨⟨_,rfl,by kernel_rfl,by kernel_rfl⟩,t23.2.2.2.1,rfl⟩
theorem t24:TQ3 24 true 5 [.slice none 0 0,.slice none 0 0,.slice none 0 0,.int .u8 0,.slice none 0 0] [(0,1),(1,1),(2,1),(3,1),(4,1)]:=kTQ3 (by kernel_rfl)
theorem r24:TR3 24 0 1 2 3 4:=⟨fun _ _ _=>⟨rfl,rfl,rfl,rfl,rfl⟩,fun _ _ _ _ _=>⟨rfl,rfl,rfl,rfl,rfl⟩⟩
theorem t25:TQ3 25 true 5 [.slice none 0 0,.slice none 0 0,.slice none 0 0,.int .u8 0,.slice none 0 0] [(0,1),(1,1),(2,1),(3,1),(4,1)]:=kTQ3 (by kernel_rfl)
theorem r25:TR3 25 0 1 2 3 4:=⟨fun _ _ _=>⟨rfl,rfl,rfl,rfl,rfl⟩,fun _ _ _ _ _=>⟨rfl,rfl,rfl,rfl,rfl⟩⟩
theorem t26:TQ0 26 false 1 [.nilFunc]:=kTQ0 (by kernel_rfl)
theorem t27:TQ4 27 (.pointer 34) false 1 [.pointer none]:=kTQ4 (by kernel_rfl)
theorem t28:TQ0 28 false 1 [.nilFunc]:=kTQ0 (by kernel_rfl)
theorem t29:TQ4 29 (.pointer 94) false 1 [.pointer none]:=kTQ4 (by kernel_rfl)
theorem t30:TQ4 30 (.pointer 97) false 1 [.pointer none]:=kTQ4 (by kernel_rfl)
theorem t31:TQ4 31 (.pointer 148) false 1 [.pointer none]:=kTQ4 (by kernel_rfl)
theorem t32:TQ4 32 (.pointer 182) false 1 [.pointer none]:=kTQ4 (by kernel_rfl)
theorem t34:TQ3 34 true 4 [.pointer none,.pointer none,.pointer none,.pointer none] [(0,1),(1,1),(2,1),(3,1)]:=kTQ3 (by kernel_rfl)
theorem r34:TR0 34 0 1 2 3:=⟨fun _ _ _=>⟨rfl,rfl,rfl,rfl⟩,fun _ _ _ _=>⟨rfl,rfl,rfl,rfl⟩⟩
theorem t35:TQ6 35 (.slice 46) false 1 [.slice none 0 0]:=kTQ6 (by kernel_rfl)
theorem t37:TQ3 37 true 4 [.int .i64 0,.slice none 0 0,.slice none 0 0,.slice none 0 0] [(0,1),(1,1),(2,1),(3,1)]:=kTQ3 (by kernel_rfl)
theorem r37:TR0 37 0 1 2 3:=⟨fun _ _ _=>⟨rfl,rfl,rfl,rfl⟩,fun _ _ _ _=>⟨rfl,rfl,rfl,rfl⟩⟩
theorem t39:TQ6 39 (.slice 23) false 1 [.slice none 0 0]:=kTQ6 (by kernel_rfl)
theorem t42:TQ6 42 (.slice 3) false 1 [.slice none 0 0]:=kTQ6 (by kernel_rfl)
theorem e42E:dE zB 42 24 1 [.slice none 0 0]:=⟨⟨_,rfl,by kernel_rfl,by kernel_rfl⟩,t42.2.2.2.1,rfl⟩
theorem t46:TQ3 46 true 3 [.int .i64 0,.int .i64 0,.int .i64 0] [(0,1),(1,1),(2,1)]:=kTQ3 (by kernel_rfl)
theorem r46:TR4 46 0 1 2:=⟨fun _ _ _=>⟨rfl,rfl,rfl⟩,fun _ _ _=>⟨rfl,rfl,rfl⟩⟩
theorem e46E:dE zB 46 24 3 [.int .i64 0,.int .i64 0,.int .i64 0]:=⟨⟨_,rfl,by kernel_rfl,by kernel_rfl⟩,t46.2.2.1,rfl⟩
theorem t48:TQ5 48 false 1 [.nilIface]:=kTQ5 (by kernel_rfl)
theorem t51:TQ1 51 (.int .i64) false 1 [.int .i64 0]:=kTQ1 (by kernel_rfl)
theorem t76:TQ1 76 (.int .u32) false 1 [.int .u32 0]:=kTQ1 (by kernel_rfl)
theorem e76E:dE zB 76 4 1 [.int .u32 0]:=⟨⟨_,rfl,by kernel_rfl,by kernel_rfl⟩,t76.2.2.2.1,rfl⟩
theorem t92:TQ6 92 (.slice 42) false 1 [.slice none 0 0]:=kTQ6 (by kernel_rfl)
theorem t94:TQ3 94 true 6 [.int .i64 0,.slice none 0 0,.slice none 0 0,.slice none 0 0,.slice none 0 0,.slice none 0 0] [(0,4),(4,1),(5,1)]:=kTQ3 (by kernel_rfl)
theorem r94:TR5 94 0 4 5:=⟨fun _ _ _=>⟨rfl,rfl,rfl⟩,fun _ _ _ _ _ _=>⟨rfl,rfl,rfl⟩⟩
theorem t97:TQ3 97 true 4 [.int .i64 0,.slice none 0 0,.slice none 0 0,.slice none 0 0] [(0,1),(1,1),(2,1),(3,1)]:=kTQ3 (by kernel_rfl)
theorem r97:TR0 97 0 1 2 3:=⟨fun _ _ _=>⟨rfl,rfl,rfl,rfl⟩,fun _ _ _ _=>⟨rfl,rfl,rfl,rfl⟩⟩
theorem t148:TQ3 148 true 2 [.slice none 0 0,.int .i64 0] [(0,1),(1,1)]:=kTQ3 (by kernel_rfl)
theorem r148:TR1 148 0 1:=⟨fun _ _ _=>⟨rfl,rfl⟩,fun _ _=>⟨rfl,rfl⟩⟩
theorem t161:TQ4 161 (.pointer 5) false 1 [.pointer none]:=kTQ4 (by kernel_rfl)
theorem t182:TQ3 182 true 4 [.int .i64 0,.int .i64 0,.int .i64 0,.slice none 0 0] [(0,1),(1,1),(2,1),(3,1)]:=kTQ3 (by kernel_rfl)
theorem r182:TR0 182 0 1 2 3:=⟨fun _ _ _=>⟨rfl,rfl,rfl,rfl⟩,fun _ _ _ _=>⟨rfl,rfl,rfl,rfl⟩⟩
theorem t248:TQ1 248 (.int .u8) false 1 [.int .u8 0]:=kTQ1 (by kernel_rfl)
theorem t355:TQ3 355 true 4 [.pointer none,.pointer none,.pointer none,.string ⟨#[]⟩] [(0,1),(1,1),(2,1),(3,1)]:=kTQ3 (by kernel_rfl)
theorem r355:TR0 355 0 1 2 3:=⟨fun _ _ _=>⟨rfl,rfl,rfl,rfl⟩,fun _ _ _ _=>⟨rfl,rfl,rfl,rfl⟩⟩
theorem t356:TQ2 356 (.array 0 16) true 0 []:=kTQ2 (by kernel_rfl)
theorem t358:TQ7 358 true 0 []:=kTQ7 (by kernel_rfl)
theorem t360:TQ1 360 (.int .u8) false 1 [.int .u8 0]:=kTQ1 (by kernel_rfl)
theorem t361:TQ0 361 false 1 [.nilFunc]:=kTQ0 (by kernel_rfl)
theorem t362:TQ1 362 (.int .i32) false 1 [.int .i32 0]:=kTQ1 (by kernel_rfl)
theorem t363:TQ1 363 (.int .i32) false 1 [.int .i32 0]:=kTQ1 (by kernel_rfl)
theorem t365:TQ3 365 true 11 [.int .u64 0,.int .u64 0,.int .u32 0,.int .u8 0,.int .u8 0,.int .u8 0,.int .u8 0,.nilFunc,.pointer none,.int .i32 0,.int .i32 0] [(0,1),(1,1),(2,1),(3,1),(4,1),(5,1),(6,1),(7,1),(8,1),(9,1),(10,1)]:=kTQ3 (by kernel_rfl)
theorem r365:TR6 365 0 1 2 3 4 5 6 7 8 9 10:=⟨fun _ _ _=>⟨rfl,rfl,rfl,rfl,rfl,rfl,rfl,rfl,rfl,rfl,rfl⟩,fun _ _ _ _ _ _ _ _ _ _ _=>⟨rfl,rfl,rfl,rfl,rfl,rfl,rfl,rfl,rfl,rfl,rfl⟩⟩
theorem e3:abEnv.fn 3=some Tryz.f3:=by kernel_rfl
theorem t58:TQ6 58 (.slice 69) false 1 [.slice none 0 0]:=kTQ6 (by kernel_rfl)
theorem t69:TQ3 69 true 2 [.int .i64 0,.string ⟨#[]⟩] [(0,1),(1,1)]:=kTQ3 (by kernel_rfl)
theorem r69:TR1 69 0 1:=⟨fun _ _ _=>⟨rfl,rfl⟩,fun _ _=>⟨rfl,rfl⟩⟩
theorem e69E:dE zB 69 24 2 [.int .i64 0,.string ⟨#[]⟩]:=⟨⟨_,rfl,by kernel_rfl,by kernel_rfl⟩,t69.2.2.1,rfl⟩
theorem t33:TQ3 33 true 4 [.pointer none,.pointer none,.pointer none,.pointer none] [(0,1),(1,1),(2,1),(3,1)]:=kTQ3 (by kernel_rfl)
theorem r33:TR0 33 0 1 2 3:=⟨fun _ _ _=>⟨rfl,rfl,rfl,rfl⟩,fun _ _ _ _=>⟨rfl,rfl,rfl,rfl⟩⟩
theorem t36:TQ3 36 true 4 [.int .i64 0,.slice none 0 0,.slice none 0 0,.slice none 0 0] [(0,1),(1,1),(2,1),(3,1)]:=kTQ3 (by kernel_rfl)
theorem r36:TR0 36 0 1 2 3:=⟨fun _ _ _=>⟨rfl,rfl,rfl,rfl⟩,fun _ _ _ _=>⟨rfl,rfl,rfl,rfl⟩⟩
theorem t38:TQ0 38 false 1 [.nilFunc]:=kTQ0 (by kernel_rfl)
theorem t41:TQ0 41 false 1 [.nilFunc]:=kTQ0 (by kernel_rfl)
theorem t43:TQ0 43 false 1 [.nilFunc]:=kTQ0 (by kernel_rfl)
theorem t44:TQ0 44 false 1 [.nilFunc]:=kTQ0 (by kernel_rfl)
theorem t45:TQ3 45 true 3 [.int .i64 0,.int .i64 0,.int .i64 0] [(0,1),(1,1),(2,1)]:=kTQ3 (by kernel_rfl)
theorem r45:TR4 45 0 1 2:=⟨fun _ _ _=>⟨rfl,rfl,rfl⟩,fun _ _ _=>⟨rfl,rfl,rfl⟩⟩
theorem t47:TQ5 47 false 1 [.nilIface]:=kTQ5 (by kernel_rfl)
theorem t84:TQ4 84 (.pointer 86) false 1 [.pointer none]:=kTQ4 (by kernel_rfl)
theorem t86:TQ3 86 true 2 [.slice none 0 0,.int .i64 0] [(0,1),(1,1)]:=kTQ3 (by kernel_rfl)
theorem r86:TR1 86 0 1:=⟨fun _ _ _=>⟨rfl,rfl⟩,fun _ _=>⟨rfl,rfl⟩⟩
theorem t90:TQ1 90 (.int .u64) false 1 [.int .u64 0]:=kTQ1 (by kernel_rfl)
theorem e90E:dE zB 90 8 1 [.int .u64 0]:=⟨⟨_,rfl,by kernel_rfl,by kernel_rfl⟩,t90.2.2.2.1,rfl⟩
theorem e9:abEnv.fn 9=some Tryz.f9:=by kernel_rfl
theorem e10:abEnv.fn 10=some Tryz.f10:=by kernel_rfl
theorem e11:abEnv.fn 11=some Tryz.f11:=by kernel_rfl
theorem e12:abEnv.fn 12=some Tryz.f12:=by kernel_rfl
theorem t100:TQ0 100 false 1 [.nilFunc]:=kTQ0 (by kernel_rfl)
theorem t102:TQ0 102 false 1 [.nilFunc]:=kTQ0 (by kernel_rfl)
theorem e13:abEnv.fn 13=some Tryz.f13:=by kernel_rfl
theorem t106:TQ3 106 true 4 [.int .i64 0,.int .i64 0,.int .i64 0,.int .i64 0] [(0,1),(1,1),(2,1),(3,1)]:=kTQ3 (by kernel_rfl)
theorem r106:TR0 106 0 1 2 3:=⟨fun _ _ _=>⟨rfl,rfl,rfl,rfl⟩,fun _ _ _ _=>⟨rfl,rfl,rfl,rfl⟩⟩
theorem t108:TQ4 108 (.pointer 106) false 1 [.pointer none]:=kTQ4 (by kernel_rfl)
theorem t110:TQ3 110 true 1 [.pointer none] [(0,1)]:=kTQ3 (by kernel_rfl)
theorem r110:TR2 110 0:=⟨fun _ _ _=>rfl,fun _=>rfl⟩
theorem e14:abEnv.fn 14=some Tryz.f14:=by kernel_rfl
theorem e15:abEnv.fn 15=some Tryz.f15:=by kernel_rfl
theorem e16:abEnv.fn 16=some Tryz.f16:=by kernel_rfl
theorem t120:TQ4 120 (.pointer 192) false 1 [.pointer none]:=kTQ4 (by kernel_rfl)
theorem t192:TQ3 192 true 1 [.slice none 0 0] [(0,1)]:=kTQ3 (by kernel_rfl)
theorem r192:TR2 192 0:=⟨fun _ _ _=>rfl,fun _=>rfl⟩
theorem t194:TQ6 194 (.slice 90) false 1 [.slice none 0 0]:=kTQ6 (by kernel_rfl)
theorem t196:TQ6 196 (.slice 76) false 1 [.slice none 0 0]:=kTQ6 (by kernel_rfl)
theorem e21:abEnv.fn 21=some Tryz.f21:=by kernel_rfl
theorem e22:abEnv.fn 22=some Tryz.f22:=by kernel_rfl
theorem e27:abEnv.fn 27=some Tryz.f27:=by kernel_rfl
theorem t152:TQ0 152 false 1 [.nilFunc]:=kTQ0 (by kernel_rfl)
theorem e28:abEnv.fn 28=some Tryz.f28:=by kernel_rfl
theorem e29:abEnv.fn 29=some Tryz.f29:=by kernel_rfl
theorem t157:TQ0 157 false 1 [.nilFunc]:=kTQ0 (by kernel_rfl)
theorem t159:TQ0 159 false 1 [.nilFunc]:=kTQ0 (by kernel_rfl)
theorem e30:abEnv.fn 30=some Tryz.f30:=by kernel_rfl
theorem e31:abEnv.fn 31=some Tryz.f31:=by kernel_rfl
theorem t162:TQ0 162 false 1 [.nilFunc]:=kTQ0 (by kernel_rfl)
theorem e32:abEnv.fn 32=some Tryz.f32:=by kernel_rfl
theorem e33:abEnv.fn 33=some Tryz.f33:=by kernel_rfl
theorem e34:abEnv.fn 34=some Tryz.f34:=by kernel_rfl
theorem e35:abEnv.fn 35=some Tryz.f35:=by kernel_rfl
theorem t99:TQ0 99 false 1 [.nilFunc]:=kTQ0 (by kernel_rfl)
theorem e36:abEnv.fn 36=some Tryz.f36:=by kernel_rfl
theorem e37:abEnv.fn 37=some Tryz.f37:=by kernel_rfl
theorem e38:abEnv.fn 38=some Tryz.f38:=by kernel_rfl
theorem e39:abEnv.fn 39=some Tryz.f39:=by kernel_rfl
theorem e40:abEnv.fn 40=some Tryz.f40:=by kernel_rfl
theorem t167:TQ2 167 (.map 3 3) false 1 [.map none]:=kTQ2 (by kernel_rfl)
theorem t168:TQ0 168 false 1 [.nilFunc]:=kTQ0 (by kernel_rfl)
theorem e41:abEnv.fn 41=some Tryz.f41:=by kernel_rfl
theorem e42:abEnv.fn 42=some Tryz.f42:=by kernel_rfl
theorem t176:TQ0 176 false 1 [.nilFunc]:=kTQ0 (by kernel_rfl)
theorem t177:TQ0 177 false 1 [.nilFunc]:=kTQ0 (by kernel_rfl)
theorem e44:abEnv.fn 44=some Tryz.f44:=by kernel_rfl
theorem t116:TQ0 116 false 1 [.nilFunc]:=kTQ0 (by kernel_rfl)
theorem t178:TQ3 178 true 3 [.int .i64 0,.bool false,.nilFunc] [(0,1),(1,1),(2,1)]:=kTQ3 (by kernel_rfl)
theorem r178:TR4 178 0 1 2:=⟨fun _ _ _=>⟨rfl,rfl,rfl⟩,fun _ _ _=>⟨rfl,rfl,rfl⟩⟩
theorem t179:TQ2 179 (.array 4 178) true 12 [.int .i64 0,.bool false,.nilFunc,.int .i64 0,.bool false,.nilFunc,.int .i64 0,.bool false,.nilFunc,.int .i64 0,.bool false,.nilFunc]:=kTQ2 (by kernel_rfl)
theorem e45:abEnv.fn 45=some Tryz.f45:=by kernel_rfl
theorem e46:abEnv.fn 46=some Tryz.f46:=by kernel_rfl
theorem e49:abEnv.fn 49=some Tryz.f49:=by kernel_rfl
theorem e50:abEnv.fn 50=some Tryz.f50:=by kernel_rfl
theorem e53:abEnv.fn 53=some Tryz.f53:=by kernel_rfl
theorem e54:abEnv.fn 54=some Tryz.f54:=by kernel_rfl
theorem e55:abEnv.fn 55=some Tryz.f55:=by kernel_rfl
theorem e56:abEnv.fn 56=some Tryz.f56:=by kernel_rfl
theorem e57:abEnv.fn 57=some Tryz.f57:=by kernel_rfl
theorem e58:abEnv.fn 58=some Tryz.f58:=by kernel_rfl
theorem e59:abEnv.fn 59=some Tryz.f59:=by kernel_rfl
theorem e60:abEnv.fn 60=some Tryz.f60:=by kernel_rfl
theorem e61:abEnv.fn 61=some Tryz.f61:=by kernel_rfl
theorem t224:TQ6 224 (.slice 4) false 1 [.slice none 0 0]:=kTQ6 (by kernel_rfl)
theorem e62:abEnv.fn 62=some Tryz.f62:=by kernel_rfl
theorem e74:abEnv.fn 74=some Tryz.f74:=by kernel_rfl
theorem t79:TQ0 79 false 1 [.nilFunc]:=kTQ0 (by kernel_rfl)
theorem e75:abEnv.fn 75=some Tryz.f75:=by kernel_rfl
theorem e76:abEnv.fn 76=some Tryz.f76:=by kernel_rfl
theorem e77:abEnv.fn 77=some Tryz.f77:=by kernel_rfl
theorem e78:abEnv.fn 78=some Tryz.f78:=by kernel_rfl
theorem e79:abEnv.fn 79=some Tryz.f79:=by kernel_rfl
theorem e80:abEnv.fn 80=some Tryz.f80:=by kernel_rfl
theorem e81:abEnv.fn 81=some Tryz.f81:=by kernel_rfl
theorem e82:abEnv.fn 82=some Tryz.f82:=by kernel_rfl
theorem e83:abEnv.fn 83=some Tryz.f83:=by kernel_rfl
theorem e84:abEnv.fn 84=some Tryz.f84:=by kernel_rfl
theorem e85:abEnv.fn 85=some Tryz.f85:=by kernel_rfl
theorem t228:TQ3 228 true 3 [.slice none 0 0,.slice none 0 0,.slice none 0 0] [(0,1),(1,1),(2,1)]:=kTQ3 (by kernel_rfl)
theorem r228:TR4 228 0 1 2:=⟨fun _ _ _=>⟨rfl,rfl,rfl⟩,fun _ _ _=>⟨rfl,rfl,rfl⟩⟩
theorem t230:TQ0 230 false 1 [.nilFunc]:=kTQ0 (by kernel_rfl)
theorem e86:abEnv.fn 86=some Tryz.f86:=by kernel_rfl
theorem e87:abEnv.fn 87=some Tryz.f87:=by kernel_rfl
theorem e88:abEnv.fn 88=some Tryz.f88:=by kernel_rfl
theorem e89:abEnv.fn 89=some Tryz.f89:=by kernel_rfl
theorem e90:abEnv.fn 90=some Tryz.f90:=by kernel_rfl
theorem e91:abEnv.fn 91=some Tryz.f91:=by kernel_rfl
theorem e92:abEnv.fn 92=some Tryz.f92:=by kernel_rfl
theorem e93:abEnv.fn 93=some Tryz.f93:=by kernel_rfl
theorem e94:abEnv.fn 94=some Tryz.f94:=by kernel_rfl
theorem e95:abEnv.fn 95=some Tryz.f95:=by kernel_rfl
theorem t170:TQ3 170 true 1 [.pointer none] [(0,1)]:=kTQ3 (by kernel_rfl)
theorem r170:TR2 170 0:=⟨fun _ _ _=>rfl,fun _=>rfl⟩
theorem e96:abEnv.fn 96=some Tryz.f96:=by kernel_rfl
theorem t233:TQ0 233 false 1 [.nilFunc]:=kTQ0 (by kernel_rfl)
theorem t235:TQ0 235 false 1 [.nilFunc]:=kTQ0 (by kernel_rfl)
theorem e235E:dE zB 235 8 1 [.nilFunc]:=⟨⟨_,rfl,by kernel_rfl,by kernel_rfl⟩,t235.2.2.1,rfl⟩
theorem t237:TQ6 237 (.slice 235) false 1 [.slice none 0 0]:=kTQ6 (by kernel_rfl)
theorem t239:TQ3 239 true 6 [.int .i64 0,.int .i64 0,.int .i64 0,.int .i64 0,.int .i64 0,.int .i64 0] [(0,1),(1,1),(2,1),(3,1),(4,1),(5,1)]:=kTQ3 (by kernel_rfl)
theorem r239:TR7 239 0 1 2 3 4 5:=⟨fun _ _ _=>⟨rfl,rfl,rfl,rfl,rfl,rfl⟩,fun _ _ _ _ _ _=>⟨rfl,rfl,rfl,rfl,rfl,rfl⟩⟩
theorem e239E:dE zB 239 48 6 [.int .i64 0,.int .i64 0,.int .i64 0,.int .i64 0,.int .i64 0,.int .i64 0]:=⟨⟨_,rfl,by kernel_rfl,by kernel_rfl⟩,t239.2.2.1,rfl⟩
theorem e97:abEnv.fn 97=some Tryz.f97:=by kernel_rfl
theorem e99:abEnv.fn 99=some Tryz.f99:=by kernel_rfl
theorem e100:abEnv.fn 100=some Tryz.f100:=by kernel_rfl
theorem e101:abEnv.fn 101=some Tryz.f101:=by kernel_rfl
theorem e102:abEnv.fn 102=some Tryz.f102:=by kernel_rfl
theorem e103:abEnv.fn 103=some Tryz.f103:=by kernel_rfl
theorem e104:abEnv.fn 104=some Tryz.f104:=by kernel_rfl
theorem e105:abEnv.fn 105=some Tryz.f105:=by kernel_rfl
theorem t264:TQ2 264 (.array 8 5) true 8 [.int .u8 0,.int .u8 0,.int .u8 0,.int .u8 0,.int .u8 0,.int .u8 0,.int .u8 0,.int .u8 0]:=kTQ2 (by kernel_rfl)
theorem t265:TQ1 265 (.int .u64) false 1 [.int .u64 0]:=kTQ1 (by kernel_rfl)
theorem e114:abEnv.fn 114=some Tryz.f114:=by kernel_rfl
theorem e115:abEnv.fn 115=some Tryz.f115:=by kernel_rfl
theorem e116:abEnv.fn 116=some Tryz.f116:=by kernel_rfl
theorem t115:TQ0 115 false 1 [.nilFunc]:=kTQ0 (by kernel_rfl)
theorem e117:abEnv.fn 117=some Tryz.f117:=by kernel_rfl
theorem e118:abEnv.fn 118=some Tryz.f118:=by kernel_rfl
theorem e119:abEnv.fn 119=some Tryz.f119:=by kernel_rfl
theorem e120:abEnv.fn 120=some Tryz.f120:=by kernel_rfl
theorem e139:abEnv.fn 139=some Tryz.f139:=by kernel_rfl
theorem e140:abEnv.fn 140=some Tryz.f140:=by kernel_rfl
theorem t221:TQ0 221 false 1 [.nilFunc]:=kTQ0 (by kernel_rfl)
theorem e141:abEnv.fn 141=some Tryz.f141:=by kernel_rfl
theorem e142:abEnv.fn 142=some Tryz.f142:=by kernel_rfl
theorem e143:abEnv.fn 143=some Tryz.f143:=by kernel_rfl
theorem e144:abEnv.fn 144=some Tryz.f144:=by kernel_rfl
theorem e145:abEnv.fn 145=some Tryz.f145:=by kernel_rfl
theorem e146:abEnv.fn 146=some Tryz.f146:=by kernel_rfl
theorem e147:abEnv.fn 147=some Tryz.f147:=by kernel_rfl
theorem e148:abEnv.fn 148=some Tryz.f148:=by kernel_rfl
theorem e149:abEnv.fn 149=some Tryz.f149:=by kernel_rfl
theorem t101:TQ0 101 false 1 [.nilFunc]:=kTQ0 (by kernel_rfl)
theorem t280:TQ4 280 (.pointer 286) false 1 [.pointer none]:=kTQ4 (by kernel_rfl)
theorem t281:TQ4 281 (.pointer 331) false 1 [.pointer none]:=kTQ4 (by kernel_rfl)
theorem t286:TQ3 286 true 5 [.pointer none,.slice none 0 0,.slice none 0 0,.slice none 0 0,.map none] [(0,1),(1,3),(4,1)]:=kTQ3 (by kernel_rfl)
theorem r286:TR8 286 0 1 4:=⟨fun _ _ _=>⟨rfl,rfl,rfl⟩,fun _ _ _ _ _=>⟨rfl,rfl,rfl⟩⟩
theorem t291:TQ0 291 false 1 [.nilFunc]:=kTQ0 (by kernel_rfl)
theorem t329:TQ3 329 true 2 [.slice none 0 0,.map none] [(0,1),(1,1)]:=kTQ3 (by kernel_rfl)
theorem r329:TR1 329 0 1:=⟨fun _ _ _=>⟨rfl,rfl⟩,fun _ _=>⟨rfl,rfl⟩⟩
theorem t331:TQ3 331 true 3 [.slice none 0 0,.map none,.int .i64 0] [(0,2),(2,1)]:=kTQ3 (by kernel_rfl)
theorem r331:TR9 331 0 2:=⟨fun _ _ _=>⟨rfl,rfl⟩,fun _ _ _=>⟨rfl,rfl⟩⟩
theorem e150:abEnv.fn 150=some Tryz.f150:=by kernel_rfl
theorem e151:abEnv.fn 151=some Tryz.f151:=by kernel_rfl
theorem e152:abEnv.fn 152=some Tryz.f152:=by kernel_rfl
theorem e153:abEnv.fn 153=some Tryz.f153:=by kernel_rfl
theorem e154:abEnv.fn 154=some Tryz.f154:=by kernel_rfl
theorem e155:abEnv.fn 155=some Tryz.f155:=by kernel_rfl
theorem e156:abEnv.fn 156=some Tryz.f156:=by kernel_rfl
theorem t296:TQ6 296 (.slice 239) false 1 [.slice none 0 0]:=kTQ6 (by kernel_rfl)
theorem e157:abEnv.fn 157=some Tryz.f157:=by kernel_rfl
theorem e158:abEnv.fn 158=some Tryz.f158:=by kernel_rfl
theorem e159:abEnv.fn 159=some Tryz.f159:=by kernel_rfl
theorem e160:abEnv.fn 160=some Tryz.f160:=by kernel_rfl
theorem e161:abEnv.fn 161=some Tryz.f161:=by kernel_rfl
theorem e162:abEnv.fn 162=some Tryz.f162:=by kernel_rfl
theorem e163:abEnv.fn 163=some Tryz.f163:=by kernel_rfl
theorem e164:abEnv.fn 164=some Tryz.f164:=by kernel_rfl
theorem e169:abEnv.fn 169=some Tryz.f169:=by kernel_rfl
theorem t318:TQ2 318 (.array 16 76) true 16 [.int .u32 0,.int .u32 0,.int .u32 0,.int .u32 0,.int .u32 0,.int .u32 0,.int .u32 0,.int .u32 0,.int .u32 0,.int .u32 0,.int .u32 0,.int .u32 0,.int .u32 0,.int .u32 0,.int .u32 0,.int .u32 0]:=kTQ2 (by kernel_rfl)
theorem e178:abEnv.fn 178=some Tryz.f178:=by kernel_rfl
theorem e189:abEnv.fn 189=some Tryz.f189:=by kernel_rfl
theorem e190:abEnv.fn 190=some Tryz.f190:=by kernel_rfl
theorem e191:abEnv.fn 191=some Tryz.f191:=by kernel_rfl
theorem e192:abEnv.fn 192=some Tryz.f192:=by kernel_rfl
theorem e193:abEnv.fn 193=some Tryz.f193:=by kernel_rfl
theorem e194:abEnv.fn 194=some Tryz.f194:=by kernel_rfl
theorem e195:abEnv.fn 195=some Tryz.f195:=by kernel_rfl
theorem e196:abEnv.fn 196=some Tryz.f196:=by kernel_rfl
theorem t327:TQ6 327 (.slice 335) false 1 [.slice none 0 0]:=kTQ6 (by kernel_rfl)
theorem t335:TQ3 335 true 2 [.int .i64 0,.int .i64 0] [(0,1),(1,1)]:=kTQ3 (by kernel_rfl)
theorem r335:TR1 335 0 1:=⟨fun _ _ _=>⟨rfl,rfl⟩,fun _ _=>⟨rfl,rfl⟩⟩
theorem e335E:dE zB 335 16 2 [.int .i64 0,.int .i64 0]:=⟨⟨_,rfl,by kernel_rfl,by kernel_rfl⟩,t335.2.2.1,rfl⟩
theorem e197:abEnv.fn 197=some Tryz.f197:=by kernel_rfl
theorem e198:abEnv.fn 198=some Tryz.f198:=by kernel_rfl
theorem e199:abEnv.fn 199=some Tryz.f199:=by kernel_rfl
theorem e200:abEnv.fn 200=some Tryz.f200:=by kernel_rfl
theorem e201:abEnv.fn 201=some Tryz.f201:=by kernel_rfl
theorem e202:abEnv.fn 202=some Tryz.f202:=by kernel_rfl
theorem e203:abEnv.fn 203=some Tryz.f203:=by kernel_rfl
theorem e204:abEnv.fn 204=some Tryz.f204:=by kernel_rfl
theorem e205:abEnv.fn 205=some Tryz.f205:=by kernel_rfl
theorem t297:TQ0 297 false 1 [.nilFunc]:=kTQ0 (by kernel_rfl)
theorem e206:abEnv.fn 206=some Tryz.f206:=by kernel_rfl
theorem e207:abEnv.fn 207=some Tryz.f207:=by kernel_rfl
theorem e211:abEnv.fn 211=some Tryz.f211:=by kernel_rfl
theorem e216:abEnv.fn 216=some Tryz.f216:=by kernel_rfl
theorem e217:abEnv.fn 217=some Tryz.f217:=by kernel_rfl
theorem e219:abEnv.fn 219=some Tryz.f219:=by kernel_rfl
theorem e220:abEnv.fn 220=some Tryz.f220:=by kernel_rfl
theorem e221:abEnv.fn 221=some Tryz.f221:=by kernel_rfl
theorem e222:abEnv.fn 222=some Tryz.f222:=by kernel_rfl
theorem e223:abEnv.fn 223=some Tryz.f223:=by kernel_rfl
theorem e224:abEnv.fn 224=some Tryz.f224:=by kernel_rfl
theorem e225:abEnv.fn 225=some Tryz.f225:=by kernel_rfl
theorem e226:abEnv.fn 226=some Tryz.f226:=by kernel_rfl
theorem t346:TQ4 346 (.pointer 329) false 1 [.pointer none]:=kTQ4 (by kernel_rfl)
theorem e227:abEnv.fn 227=some Tryz.f227:=by kernel_rfl
theorem e228:abEnv.fn 228=some Tryz.f228:=by kernel_rfl
theorem e229:abEnv.fn 229=some Tryz.f229:=by kernel_rfl
theorem t313:TQ0 313 false 1 [.nilFunc]:=kTQ0 (by kernel_rfl)
theorem e230:abEnv.fn 230=some Tryz.f230:=by kernel_rfl
theorem t338:TQ0 338 false 1 [.nilFunc]:=kTQ0 (by kernel_rfl)
theorem e231:abEnv.fn 231=some Tryz.f231:=by kernel_rfl
theorem e232:abEnv.fn 232=some Tryz.f232:=by kernel_rfl
theorem e233:abEnv.fn 233=some Tryz.f233:=by kernel_rfl
theorem e234:abEnv.fn 234=some Tryz.f234:=by kernel_rfl
theorem e235:abEnv.fn 235=some Tryz.f235:=by kernel_rfl
theorem e236:abEnv.fn 236=some Tryz.f236:=by kernel_rfl
theorem t349:TQ0 349 false 1 [.nilFunc]:=kTQ0 (by kernel_rfl)
theorem e237:abEnv.fn 237=some Tryz.f237:=by kernel_rfl
theorem e238:abEnv.fn 238=some Tryz.f238:=by kernel_rfl
theorem e240:abEnv.fn 240=some Tryz.f240:=by kernel_rfl
theorem e241:abEnv.fn 241=some Tryz.f241:=by kernel_rfl
theorem e242:abEnv.fn 242=some Tryz.f242:=by kernel_rfl
theorem e243:abEnv.fn 243=some Tryz.f243:=by kernel_rfl
theorem e244:abEnv.fn 244=some Tryz.f244:=by kernel_rfl
theorem e245:abEnv.fn 245=some Tryz.f245:=by kernel_rfl
theorem e246:abEnv.fn 246=some Tryz.f246:=by kernel_rfl
theorem e247:abEnv.fn 247=some Tryz.f247:=by kernel_rfl
theorem e248:abEnv.fn 248=some Tryz.f248:=by kernel_rfl
theorem e249:abEnv.fn 249=some Tryz.f249:=by kernel_rfl
theorem e250:abEnv.fn 250=some Tryz.f250:=by kernel_rfl
theorem e251:abEnv.fn 251=some Tryz.f251:=by kernel_rfl
theorem e252:abEnv.fn 252=some Tryz.f252:=by kernel_rfl
end Tryz
end Go.Ab

end
section
namespace Go.Ab
open Go.Proofs
set_option maxRecDepth 10000
def Z0:=aj t37<|r37
def Z1:=aj t7<|r7
def Z2:=aj t94<|r94
def Z3:=aj t46<|r46
def Z4:=aj t8<|r8
def Z5:=aj t148<|r148
def Z6:=aj t182<|r182
def Z7:=aj t13<|r13
def Z8:=aj t97<|r97
def Z9:=aj t329<|r329
def Z10:=aj t192<|r192
def Z11:=aj t335<|r335
def Z12:=aj t34<|r34
def Z13:=aj t14<|r14
def Z14:=aj t331<|r331
def Z15:=aj t365<|r365
def Z16:=aj t355<|r355
def Z17:=aj t228<|r228
def Z18:=aj t239<|r239
def Z19:=aj t19<|r19
def Tryz.FT:=aj t1<|aj t2<|aj t3<|aj t4<|aj t51<|aj Z18<|aj t296<|t297
theorem values{a:Hp}(e:a.t.Sized a.n){v:Value}(f:Fl v):Ret zB 205 [v] a fun r d=>Gr a d/\ ∃b,r=.func (.func 234) #[] #[ptrTo b]/\a.n<=b/\d.load b 0 1=some [v]:=by
 have S:=Si e
 refine ac (n:=4) (rs:=[.tmp 2]) rfl Tryz.e205 rfl rfl rfl (lbt rfl) ?_
 simp only [BS,Nat.reduceLT]
 refine ag (cL (by assumption)) S ?_;clear S;intro h b S c
 simp only [BS,LB,ae,Nat.reduceLT,Nat.reduceEqDiff]
 exact⟨S.gr,b,rfl,c,S.ld m0 rfl⟩
theorem sH{g:Hp}(d:g.t.Sized g.n){v:Value}{b:Nat}{ps:List Pl}(z:g.load b 0 1=some [v])(r:au g 6 jb v ps)(t:ps.length<1000):
 Iter zB 234 [] [ptrTo b] g (fun c=>c=b\/ao v c) (ps.map fun p=>[.agg ⟨jb p⟩]):=by
 refine si fun A J Z Y h F s l=>?_
 refine enter (n:=16) (rs:=[]) rfl Tryz.e234 rfl rfl rfl (lbt rfl) ?_
 have m:=s.load d z (.inl rfl)
 have f:=s.sl d r (fun b h=>.inr h)
 simp only [BS,LB,Nat.reduceLT,FT,m,f.lenq]
 refine aD (fun(i:Nat) j h=>i<=ps.length/\ ∃F,ItS g (fun c=>c=b\/ao v c) h F/\J i h F/\j 0=.func (.yield A) #[] #[]/\j 5=v/\j 6=.int .i64 ps.length/\j 7=.int .i64 i) (fun i=>ps.length-i) ?_ 0 _ _ ?_
 . intro i B j h ⟨hi,F,s,l,r0,r5,r6,r7⟩
   by_cases hlt:i<ps.length
   . have f:=s.sl d r (fun b h=>.inr h)
     obtain⟨c,o,k,q⟩:=f.ix (kd:=.i64) encP_len hlt
     have S:=Si s.ok
     have w:am .i64 ((i:Int)+1)=((i+1:Nat):Int):=by rw [wrap64]<;>omega
     simp only [BS,LB,Nat.reduceLT,Nat.reduceEqDiff,FT,r5,r6,r7,aq,hlt,k,q]
     refine ag aw S ?_;clear S;intro h C S u
     simp only [BS,LB,Nat.reduceLT,Nat.reduceEqDiff,jb]
     refine ax (S.store (i:=0) rfl ?_ ?_ rfl rfl ?_ ono) ?_
     . exact(by exact Tryz.t239.2.1)
     . exact(by intro x e;cases e)
     . exact lbt rfl
     clear S;rintro h ⟨S,D⟩;clear D;simp only [LC,ah,lay,Xa,Xb,Nat.reduceAdd]at S
     simp only [BS,LB,Nat.reduceLT,Nat.reduceEqDiff,FT,r0,S.lds (b:=C) (o:=0) (n:=6) m0 (lbt rfl)]
     refine eU Y (s.gr S.gr) (Y.gr _ _ _ _ l S.gr) (i:=i) (by simp [hlt,jb]) ?_ ?_ ?_
     . intro y E a G _ _
       simp only [BS,LB,Nat.reduceLT,Nat.reduceEqDiff,r7,w]
       exact B (i+1) _ _ (by omega) ⟨by omega,E,G,a,by simp [aa,r0],by simp [aa,r5],by simp [aa,r6],by simp [aa]⟩
     . intro y a _
       simp only [BS,LB,Nat.reduceLT,Nat.reduceEqDiff]
       exact gy rfl ⟨rfl,.inr (.inl ⟨_,rfl,a⟩)⟩
     . intro v y a
       simp only [BS]
       exact jg (dV ⟨rfl,.inr (.inr ⟨_,rfl,a⟩)⟩)
   . simp only [BS,LB,Nat.reduceLT,r6,r7,aq,hlt]
     have:i=ps.length:=by omega
     subst this
     exact dZ (dV ⟨rfl,_,rfl,rfl,.inl ⟨_,F,rfl,by simpa using l⟩⟩)
 . exact⟨by omega,F,s,l,by simp [aa,cD],by simp [aa],by simp [aa],by simp [aa]⟩
def Tryz.F0D:=aj t1<|aj t2<|aj t3<|aj t4<|aj t5<|aj t51<|aj t233<|aj Z18<|t296
def Tryz.F0E:=aj t1<|aj t2<|aj t3<|aj t4<|aj t5<|aj t23<|aj t35<|aj Z0<|aj Z3<|aj t51<|aj t233<|aj Z18<|t296
def Tryz.Ft:=aj t1<|aj t2<|aj t3<|aj t4<|aj t5<|aj t6<|aj Z1<|aj Z4<|aj t23<|aj t35<|aj Z0<|aj Z3<|aj t51<|aj Z18<|t297
def mD(f g:Nat)(v:Value)(h:Hp):Prop:= ∃d a b,∃(e:List Pl) (D:Nat->Prop),v=.func (.func d) a b/\Iter zB d a.toList b.toList h D (e.map fun p=>[.agg ⟨jb p⟩])/\(∀p∈e,p.lo<=p.n/\p.n<p.hi)/\ ∀c,D c->c<f\/g<=c
theorem one_ok{a:Hp}(m:a.t.Sized a.n){c n d f:Int}(r:d<=n)(s:n<f):
 Ret zB 157 [.int .i64 c,.int .i64 n,.int .i64 d,.int .i64 f] a fun v k=>Gr a k/\mD 0 a.n v k:=by
 have S:=Si m
 refine ac (n:=16) (rs:=[.tmp 8]) rfl Tryz.e157 rfl rfl rfl (lbt rfl) ?_
 simp only [BS,LB,Nat.reduceLT,Nat.reduceEqDiff,Nat.reduceAdd,F0D]
 refine ag (bj (by exact Tryz.t296.1) (by exact Tryz.e239E) (by decide) (by rfl)) S ?_;clear S;intro h b S i;simp only [LC,aR,bo,ah,Nat.reduceMul,Nat.reduceAdd,Xg,Xe,Xf,Xi]at S
 simp only [BS,LB,Nat.reduceLT,Nat.reduceEqDiff]
 have q:=S.fr.n
 refine step_ret (values S.ok bU) ?_;intro v h ⟨g,b2,e,n2,l2⟩;replace S:=S.call g;clear g
 subst e
 simp only [BS,LB,ae,Nat.reduceLT,Nat.reduceEqDiff]
 have t:au h 6 jb (.slice (some ⟨b,0,none⟩) 1 1) [⟨0,0,c,n,d,f⟩]:=.inr ⟨b,0,none,1,rfl,XD _,S.lds (b:=b) (o:=0) (n:=1*6) m0 (lbt rfl)⟩
 exact⟨S.gr,_,#[],#[ptrTo b2],_,_,rfl,sH S.ok l2 t (by simp),by intro p l;simp at l;subst l;exact⟨r,s⟩,fun c j=>by rcases j with rfl|j;exact .inr (by omega);cases j;exact .inr i⟩
theorem shapes_ok{f:Hp}(y:f.t.Sized f.n){a:Gra}(d:eE a){l m r:Value}(s:cJ f l m r a):
 Ret zB 159 [fW a l m r] f fun v t=>Gr f t/\mD 0 f.n v t:=by
 have S:=Si y
 have B:=d.n1
 have C:=d.n2
 have w:am .i64 ((a.nodes:Int)+1)=((a.nodes+1:Nat):Int):=by rw [wrap64]<;>omega
 refine ac (n:=22) (rs:=[.tmp 2]) rfl Tryz.e159 rfl rfl rfl (lbt rfl) ?_
 simp only [BS,Nat.reduceLT,fW]
 refine ag (bR (by intro x e;cases e)) S ?_;clear S;intro h b S z;simp only [ah]at S
 simp only [BS,LB,Nat.reduceLT,Nat.reduceEqDiff,Nat.reduceAdd,F0E,s.X.lenq,s.Y.lenq,w,S.ld (b:=b) (o:=0) m0 rfl,S.ld (b:=b) (o:=1) m0 rfl,S.ld (b:=b) (o:=2) m0 rfl]
 refine ag (bj (by exact Tryz.t296.1) (by exact Tryz.e239E) (by decide) (by rfl)) S ?_;clear S;intro h j S i;simp only [LC,aR,bo,ah,Nat.reduceMul,Nat.reduceAdd,Xg,Xe,Xf,Xi]at S
 simp only [BS,LB,Nat.reduceLT,Nat.reduceEqDiff]
 have q:=S.fr.n
 refine step_ret (values S.ok bU) ?_;intro v h ⟨g,b2,e,n2',l2⟩;replace S:=S.call g;clear g
 subst e
 simp only [BS,LB,ae,Nat.reduceLT,Nat.reduceEqDiff]
 have A:au h 6 jb (.slice (some ⟨j,0,none⟩) 2 2) [⟨0,0,6,a.X.length,a.nodes,(a.nodes+1:Nat)⟩,⟨0,1,6,a.Y.length,a.nodes,(a.nodes+1:Nat)⟩]:=.inr ⟨j,0,none,2,rfl,XD _,S.lds (b:=j) (o:=0) (n:=2*6) m0 (lbt rfl)⟩
 refine⟨S.gr,_,#[],#[ptrTo b2],_,_,rfl,sH S.ok l2 A (by simp),?_,fun c k=>by rcases k with rfl|k;exact .inr (by omega);cases k;exact .inr i⟩
 intro p u
 have:=d.lX
 have:=d.lY
 simp at u
 rcases u with rfl|rfl<;>(simp only [];omega)
theorem nodes_ok{a:Hp}(k:a.t.Sized a.n){d f g i:Value}:Ret zB 161 [.agg ⟨[i,d,f,g]⟩] a fun v j=>Gr a j/\ ∃b,v=.func (.func 206) #[] #[ptrTo b]/\a.n<=b/\Row j b [i,d,f,g] 1:=by
 have S:=Si k
 refine ac (n:=4) (rs:=[.tmp 2]) rfl Tryz.e161 rfl rfl rfl (lbt rfl) ?_
 simp only [BS,Nat.reduceLT]
 refine ag (bR (by intro x e;cases e)) S ?_;clear S;intro h b S c;simp only [ah]at S
 simp only [BS,LB,ae,Nat.reduceLT,Nat.reduceEqDiff]
 exact⟨S.gr,b,rfl,c,S.row m0⟩
theorem arcs_ok{a:Hp}(k:a.t.Sized a.n){d f g i:Value}:Ret zB 164 [.agg ⟨[i,d,f,g]⟩] a fun v j=>Gr a j/\ ∃b,v=.func (.func 207) #[] #[ptrTo b]/\a.n<=b/\Row j b [i,d,f,g] 1:=by
 have S:=Si k
 refine ac (n:=4) (rs:=[.tmp 2]) rfl Tryz.e164 rfl rfl rfl (lbt rfl) ?_
 simp only [BS,Nat.reduceLT]
 refine ag (bR (by intro x e;cases e)) S ?_;clear S;intro h b S c;simp only [ah]at S
 simp only [BS,LB,ae,Nat.reduceLT,Nat.reduceEqDiff]
 exact⟨S.gr,b,rfl,c,S.row m0⟩
def plN(X Y:List Int):List Pl:=(zM X.length).flatMap fun(i:Nat)=>[⟨i,0,7,X.getD i 0,-2147483648,2147483648⟩,⟨i,1,7,Y.getD i 0,-2147483648,2147483648⟩]
theorem plN_len(X Y:List Int):(plN X Y).length=2*X.length:=by
 unfold plN
 rw [Xz]
 simp [XA]
 omega
theorem plN_at(X Y:List Int){i:Nat}(c:i<X.length):(plN X Y)[2*i]? =some ⟨i,0,7,X.getD i 0,-2147483648,2147483648⟩/\(plN X Y)[2*i+1]? =some ⟨i,1,7,Y.getD i 0,-2147483648,2147483648⟩:=by
 unfold plN
 have b: ∀(n j:Nat) (f:Nat->Pl) (k:Nat->Pl),j<n->((zM n).flatMap fun i=>[f i,k i])[2*j]? =some (f j)/\((zM n).flatMap fun i=>[f i,k i])[2*j+1]? =some (k j):=by
  intro n
  induction n with
  |zero=>intro j f k d;omega
  | succ n e=>
    intro j f k d
    have a:((zM n).flatMap fun i=>[f i,k i]).length=2*n:=by rw [Xz];simp [XA];omega
    rw [XH,Xm]
    by_cases h:j<n
    . rw [Xj (by omega),Xj (by omega)];exact e j f k h
    . have:j=n:=by omega
      subst this
      rw [Xh (by omega),Xh (by omega),a]
      simp
 exact b _ _ _ _ c
theorem Aw{f:Hp}(d:f.t.Sized f.n){m r L M:Value}{b:Nat}{X Y:List Int}(u:Row f b [M,m,r,L] 1)(H:au f 1 (encI .i64) m X)(N:au f 1 (encI .i64) r Y)(hl:X.length=Y.length)(I:X.length<1000):
 Iter zB 206 [] [ptrTo b] f (fun c=>c=b\/ao m c\/ao r c) ((plN X Y).map fun p=>[.agg ⟨jb p⟩]):=by
 refine si fun O J Z x h F s t=>?_
 refine enter (n:=38) (rs:=[]) rfl Tryz.e206 rfl rfl rfl (lbt rfl) ?_
 have y:=s.load d (u.load1 (o:=1) rfl) (.inl rfl)
 simp only [BS,LB,Nat.reduceLT,Nat.reduceEqDiff,Ft,y,H.lenq]
 refine aD (fun(i:Nat) j h=>i<=X.length/\ ∃F,ItS f (fun c=>c=b\/ao m c\/ao r c) h F/\J (2*i) h F/\j 0=.func (.yield O) #[] #[]/\j 1=ptrTo b/\j 8=.int .i64 X.length/\j 9=.int .i64 i) (fun i=>X.length-i) ?_ 0 _ _ ?_
 . intro i P j h ⟨hi,F,s,t,r0,r1,r8,r9⟩
   by_cases hlt:i<X.length
   . have z:=s.sl d H (fun b h=>.inr (.inl h))
     have A:=s.sl d N (fun b h=>.inr (.inr h))
     have y:=s.load d (u.load1 (o:=1) rfl) (.inl rfl)
     have Q:=s.load d (u.load1 (o:=2) rfl) (.inl rfl)
     obtain⟨c,o,k,B⟩:=z.ix (kd:=.i64) (aM _) hlt
     obtain⟨c2,o2,g,l⟩:=A.ix (kd:=.i64) (aM _) (i:=i) (by omega)
     have S:=Si s.ok
     have w:am .i64 ((i:Int)+1)=((i+1:Nat):Int):=by rw [wrap64]<;>omega
     simp only [BS,LB,Nat.reduceLT,Nat.reduceEqDiff,r8,r9,aq,hlt]
     refine ar (ay rfl) (q:=1024) (ps:=[]) (by kernel_rfl) ?_
     simp only [BS,LB,cls,Nat.reduceLT,Nat.reduceEqDiff,Nat.reduceAdd,Nat.reducePow,Nat.reduceDiv,Nat.reduceMod,Nat.reduceLeDiff,Ft,r1,y,Q,k,g,B,l,encI]
     refine fe (bj (by exact Tryz.t23.1) (by exact Tryz.e2E) (by decide) (by rfl)) S ?_;clear S;intro h e S C D;simp only [LC,aR,bo,ah,Nat.reduceMul,Nat.reduceAdd,Xg,Xe,Xf,Xi]at S
     simp only [BS,LB,cls,Nat.reduceLT,Nat.reduceEqDiff,Nat.reduceAdd,Nat.reducePow,Nat.reduceDiv,Nat.reduceMod,Nat.reduceLeDiff,Xk,Ft]
     have T:am .i64 1=1:=rfl
     have U:am .i64 2=2:=rfl
     have K:=plN_at X Y hlt
     rw [dg]
     simp only [BS,LB,Nat.reduceLT,Nat.reduceEqDiff,Nat.reduceAdd,Int.reduceToNat,Int.reduceLE,Int.reduceLT,Xk,Ft,r0,S.ld (b:=e) (o:=0) m0 rfl,S.ld (b:=e) (o:=1) m0 rfl]
     refine eU x (s.gr S.gr) (x.gr _ _ _ _ t S.gr) (i:=2*i) (by rw [Xp,K.1];simp [jb,Xd,hlt]) ?_ ?_ ?_
     . intro V F2 a W E _
       have nF:e∉F:=fun hm=>by have:=s.lt _ hm;omega
       have R:Row V e _ 1:=(S.row m0).of_get (E.get _ ((S.row m0).lt S.ok) nF)
       have R1:=R.load1 (o:=1) rfl
       have ad:True:=trivial
       simp only [BS,LB,Nat.reduceLT,Nat.reduceEqDiff,Int.reduceAdd,T]
       rw [dg]
       simp only [BS,LB,Nat.reduceLT,Nat.reduceEqDiff,Nat.reduceAdd,Int.reduceToNat,Int.reduceLE,Int.reduceLT,Xk,Ft,r0,R1]
       refine eU x W a (i:=2*i+1) (by rw [Xp,K.2];simp [jb,Xd,show i<Y.length by omega]) ?_ ?_ ?_
       . intro h3 F3 a s3 _ _
         simp only [BS,LB,Nat.reduceLT,Nat.reduceEqDiff,Int.reduceAdd,U]
         rw [dg]
         simp only [BS,LB,Nat.reduceLT,Nat.reduceEqDiff,Int.reduceLT,r9,w]
         exact P (i+1) _ _ (by omega) ⟨by omega,F3,s3,a,by simp [aa,r0],by simp [aa,r1],by simp [aa,r8],by simp [aa]⟩
       . intro G a _
         simp only [BS,LB,Nat.reduceLT,Nat.reduceEqDiff]
         exact gy rfl ⟨rfl,.inr (.inl ⟨_,rfl,a⟩)⟩
       . intro v G a
         simp only [BS]
         exact jg (dV ⟨rfl,.inr (.inr ⟨_,rfl,a⟩)⟩)
     . intro G a _
       simp only [BS,LB,Nat.reduceLT,Nat.reduceEqDiff]
       exact gy rfl ⟨rfl,.inr (.inl ⟨_,rfl,a⟩)⟩
     . intro v G a
       simp only [BS]
       exact jg (dV ⟨rfl,.inr (.inr ⟨_,rfl,a⟩)⟩)
   . simp only [BS,LB,Nat.reduceLT,r8,r9,aq,hlt]
     have:i=X.length:=by omega
     subst this
     exact dZ (dV ⟨rfl,_,rfl,rfl,.inl ⟨_,F,rfl,by simpa [plN_len]using t⟩⟩)
 . exact⟨by omega,F,s,t,by simp [aa,cD],by simp [aa,cD,ab],by simp [aa],by simp [aa]⟩
def Tryz.Fd0:=aj t1<|aj t2<|aj t3<|aj t4<|aj t5<|aj t6<|aj Z1<|aj Z4<|aj t9<|aj t23<|aj t35<|aj Z0<|aj Z3<|aj t51<|aj Z18<|aj t296<|t297
def plA(n:Nat)(A:List Arc):List Pl:=(zM A.length).flatMap fun(i:Nat)=>[⟨i,0,9,(A.getD i default).s,0,n⟩,⟨i,1,9,(A.getD i default).t,0,n⟩,⟨i,2,10,(A.getD i default).w,0,2147483648⟩]
theorem flat3_at{b:Type}(f k l:Nat->b): ∀(n j:Nat),j<n->((zM n).flatMap fun i=>[f i,k i,l i])[3*j]? =some (f j)/\((zM n).flatMap fun i=>[f i,k i,l i])[3*j+1]? =some (k j)/\((zM n).flatMap fun i=>[f i,k i,l i])[3*j+2]? =some (l j):=by
 intro n
 induction n with
 |zero=>intro j c;omega
 | succ n d=>
   intro j c
   have a:((zM n).flatMap fun i=>[f i,k i,l i]).length=3*n:=by rw [Xz];simp [XA];omega
   rw [XH,Xm]
   by_cases h:j<n
   . rw [Xj (by omega),Xj (by omega),Xj (by omega)];exact d j h
   . have:j=n:=by omega
     subst this
     rw [Xh (by omega),Xh (by omega),Xh (by omega),a]
     simp
theorem plA_len(n:Nat)(A:List Arc):(plA n A).length=3*A.length:=by
 unfold plA
 rw [Xz]
 simp [XA]
 omega
theorem arcs_iter {j:Hp} (d:j.t.Sized j.n) {X Y q:Value} {b n:Nat} {A:List Arc} (K:Row j b [.int .i64 n,X,Y,q] 1) (L:au j 3 cw q A) (M:A.length<1000):
 Iter zB 207 [] [ptrTo b] j (fun c=>c=b\/ao q c) ((plA n A).map fun p=>[.agg ⟨jb p⟩]):=by
 refine si fun lb J Z k h F s u=>?_
 refine enter (n:=44) (rs:=[]) rfl Tryz.e207 rfl rfl rfl (lbt rfl) ?_
 have l0:=s.load d (K.load1 (o:=0) rfl) (.inl rfl)
 have l3:=s.load d (K.load1 (o:=3) rfl) (.inl rfl)
 simp only [BS,LB,Nat.reduceLT,Nat.reduceEqDiff,Fd0,l0,l3,L.lenq]
 refine aD (fun(i:Nat) l h=>i<=A.length/\ ∃F,ItS j (fun c=>c=b\/ao q c) h F/\J (3*i) h F/\l 0=.func (.yield lb) #[] #[]/\l 3=.int .i64 n/\l 11=q/\l 12=.int .i64 A.length/\l 13=.int .i64 i) (fun i=>A.length-i) ?_ 0 _ _ ?_
 . intro i ih l h ⟨hi,F,s,u,r0,r3,r11,r12,r13⟩
   by_cases hlt:i<A.length
   . have y:=s.sl d L (fun b h=>.inr h)
     obtain⟨c,o,r,z⟩:=y.ix (kd:=.i64) dO hlt
     have S:=Si s.ok
     have w:am .i64 ((i:Int)+1)=((i+1:Nat):Int):=by rw [wrap64]<;>omega
     have w1:am .i64 1=1:=rfl
     have w2:am .i64 2=2:=rfl
     have w3:am .i64 3=3:=rfl
     have B:=flat3_at (fun(i:Nat)=>(⟨i,0,9,(A.getD i default).s,0,n⟩:Pl)) (fun(i:Nat)=>⟨i,1,9,(A.getD i default).t,0,n⟩) (fun(i:Nat)=>⟨i,2,10,(A.getD i default).w,0,2147483648⟩) A.length i hlt
     have C:A.getD i default=A[i]:=by simp [Xd,hlt]
     simp only [BS,LB,Nat.reduceLT,Nat.reduceEqDiff,Fd0,r11,r12,r13,aq,hlt,r,z]
     refine ag aw S ?_;clear S;intro h D S N
     simp only [BS,LB,Nat.reduceLT,Nat.reduceEqDiff,cw]
     refine ax (S.store (i:=0) rfl ?_ ?_ rfl rfl ?_ ono) ?_
     . exact(by exact Tryz.t46.2.1)
     . exact(by intro x e;cases e)
     . exact lbt rfl
     clear S;rintro h ⟨S,f⟩;clear f;simp only [LC,ah,lay,Xa,Xb,Nat.reduceAdd]at S
     simp only [BS,LB,Nat.reduceLT,Nat.reduceEqDiff,Nat.reduceAdd,Fd0,r3,S.ld (b:=D) (o:=0) m0 rfl,S.ld (b:=D) (o:=1) m0 rfl,S.ld (b:=D) (o:=2) m0 rfl]
     refine ag (bj (by exact Tryz.t296.1) (by exact Tryz.e239E) (by decide) (by rfl)) S ?_;clear S;intro h g S O;simp only [LC,aR,bo,ah,Nat.reduceMul,Nat.reduceAdd,Xg,Xe,Xf,Xi]at S
     simp only [BS,LB,Nat.reduceLT,Nat.reduceEqDiff,Xk,Fd0]
     have P:g∉F:=fun m=>by have:=s.lt _ m;omega
     have R:Row h g _ 1:=S.row m0
     have ad:=R.lt S.ok
     rw [dg]
     simp only [BS,LB,Nat.reduceLT,Nat.reduceEqDiff,Int.reduceToNat,Int.reduceLE,Int.reduceLT,Xk,Fd0,S.lds (b:=g) (o:=0) (n:=6) m0 (lbt rfl)]
     refine ag aw S ?_;clear S;intro h b7 S Q
     simp only [BS,LB,Nat.reduceLT,Nat.reduceEqDiff,Xu,Xq,Xv]
     refine ax (S.store (i:=0) rfl ?_ ?_ rfl rfl ?_ ono) ?_
     . exact(by exact Tryz.t239.2.1)
     . exact(by intro x e;cases e)
     . exact lbt rfl
     clear S;rintro h ⟨S,f⟩;clear f;simp only [LC,ah,lay,Xa,Xb,Nat.reduceAdd]at S
     simp only [BS,LB,Nat.reduceLT,Nat.reduceEqDiff,Fd0,r0,S.lds (b:=b7) (o:=0) (n:=6) m0 (lbt rfl)]
     have R:Row h g _ 1:=S.row m1
     refine eU k (s.gr S.gr) (k.gr _ _ _ _ u S.gr) (i:=3*i) (by rw [Xp,show(plA n A)[3*i]? =_ from B.1,C];simp [jb]) ?_ ?_ ?_
     . intro h2 F2 a T E G
       have R0:=R
       replace R:Row h2 g _ 1:=R.of_get (E.get _ (R.lt S.ok) P)
       have H:g∉F2:=fun m=>by
        rcases G _ m with m|m
        . exact P m
        . have:=R0.lt S.ok;omega
       have S:=Si T.ok
       simp only [BS,LB,Nat.reduceLT,Nat.reduceEqDiff,Int.reduceAdd,w1]
       rw [dg]
       simp only [BS,LB,Nat.reduceLT,Nat.reduceEqDiff,Int.reduceToNat,Int.reduceLE,Int.reduceLT,Xk,Nat.reduceMul,Fd0,R.load (o:=6) (n:=6) (lbt rfl)]
       refine ag aw S ?_;clear S;intro h b8 S U
       simp only [BS,LB,Nat.reduceLT,Nat.reduceEqDiff,XQ,Xu,Xq,Xv]
       refine ax (S.store (i:=0) rfl ?_ ?_ rfl rfl ?_ ono) ?_
       . exact(by exact Tryz.t239.2.1)
       . exact(by intro x e;cases e)
       . exact lbt rfl
       clear S;rintro h ⟨S,f⟩;clear f;simp only [LC,ah,lay,Xa,Xb,Nat.reduceAdd]at S
       simp only [BS,LB,Nat.reduceLT,Nat.reduceEqDiff,Fd0,r0,S.lds (b:=b8) (o:=0) (n:=6) m0 (lbt rfl)]
       replace R:=R.gr S.gr
       refine eU k (T.gr S.gr) (k.gr _ _ _ _ a S.gr) (i:=3*i+1) (by rw [Xp,show(plA n A)[3*i+1]? =_ from B.2.1,C];simp [jb]) ?_ ?_ ?_
       . intro h3 F3 a V I af
         replace R:Row h3 g _ 1:=R.of_get (I.get _ (R.lt S.ok) H)
         have S:=Si V.ok
         simp only [BS,LB,Nat.reduceLT,Nat.reduceEqDiff,Int.reduceAdd,w2]
         rw [dg]
         simp only [BS,LB,Nat.reduceLT,Nat.reduceEqDiff,Int.reduceToNat,Int.reduceLE,Int.reduceLT,Xk,Nat.reduceMul,Fd0,R.load (o:=12) (n:=6) (lbt rfl)]
         refine ag aw S ?_;clear S;intro h b9 S W
         simp only [BS,LB,Nat.reduceLT,Nat.reduceEqDiff,XQ,Xu,Xq,Xv]
         refine ax (S.store (i:=0) rfl ?_ ?_ rfl rfl ?_ ono) ?_
         . exact(by exact Tryz.t239.2.1)
         . exact(by intro x e;cases e)
         . exact lbt rfl
         clear S;rintro h ⟨S,f⟩;clear f;simp only [LC,ah,lay,Xa,Xb,Nat.reduceAdd]at S
         simp only [BS,LB,Nat.reduceLT,Nat.reduceEqDiff,Fd0,r0,S.lds (b:=b9) (o:=0) (n:=6) m0 (lbt rfl)]
         refine eU k (V.gr S.gr) (k.gr _ _ _ _ a S.gr) (i:=3*i+2) (by rw [Xp,show(plA n A)[3*i+2]? =_ from B.2.2,C];simp [jb]) ?_ ?_ ?_
         . intro h4 F4 a s4 ai ak
           simp only [BS,LB,Nat.reduceLT,Nat.reduceEqDiff,Int.reduceAdd,w3]
           rw [dg]
           simp only [BS,LB,Nat.reduceLT,Nat.reduceEqDiff,Int.reduceLT,r13,w]
           exact ih (i+1) _ _ (by omega) ⟨by omega,F4,s4,a,by simp [aa,r0],by simp [aa,r3],by simp [aa,r11],by simp [aa,r12],by simp [aa]⟩
         . intro t a _
           simp only [BS,LB,Nat.reduceLT,Nat.reduceEqDiff]
           exact gy rfl ⟨rfl,.inr (.inl ⟨_,rfl,a⟩)⟩
         . intro v t a
           simp only [BS]
           exact jg (dV ⟨rfl,.inr (.inr ⟨_,rfl,a⟩)⟩)
       . intro t a _
         simp only [BS,LB,Nat.reduceLT,Nat.reduceEqDiff]
         exact gy rfl ⟨rfl,.inr (.inl ⟨_,rfl,a⟩)⟩
       . intro v t a
         simp only [BS]
         exact jg (dV ⟨rfl,.inr (.inr ⟨_,rfl,a⟩)⟩)
     . intro t a _
       simp only [BS,LB,Nat.reduceLT,Nat.reduceEqDiff]
       exact gy rfl ⟨rfl,.inr (.inl ⟨_,rfl,a⟩)⟩
     . intro v t a
       simp only [BS]
       exact jg (dV ⟨rfl,.inr (.inr ⟨_,rfl,a⟩)⟩)
   . simp only [BS,LB,Nat.reduceLT,r12,r13,aq,hlt]
     have:i=A.length:=by omega
     subst this
     exact dZ (dV ⟨rfl,_,rfl,rfl,.inl ⟨_,F,rfl,by simpa [plA_len]using u⟩⟩)
 . exact⟨by omega,F,s,u,by simp [aa,cD],by simp [aa],by simp [aa],by simp [aa],by simp [aa]⟩
def Tryz.F0F:=aj t1<|aj t2<|aj t3<|aj t23<|aj t35<|aj Z0<|aj Z3<|aj t51<|t233
def Tryz.F0G:=aj t1<|aj t2<|aj t3<|aj t23<|aj t35<|aj Z0<|aj Z3<|t233
def Tryz.F0H:=aj t1<|aj t2<|aj t3<|aj t23<|aj t35<|aj Z0<|aj Z3<|aj t51<|t233
def Tryz.F0I:=aj t1<|aj t2<|aj t3<|aj t23<|aj t35<|aj Z0<|aj Z3<|t233
def Tryz.F0J:=aj t1<|aj t2<|aj t3<|aj t23<|aj t35<|aj Z0<|aj Z3<|t233
theorem look1_ok{a:Hp}(f:a.t.Sized a.n){d:Gra}(c:eE d){i j k:Value}{b:Nat}(l:Row a b [.int .i64 d.nodes,i,j,k] 1):Ret zB 156 [ptrTo b] a fun v e=>Gr a e/\mD 0 a.n v e:=by
 have S:=Si f
 have m:=c.n1
 have p:=c.n2
 refine ac (n:=5) (rs:=[.tmp 1]) rfl Tryz.e156 rfl rfl rfl (lbt rfl) ?_
 simp only [BS,LB,Nat.reduceLT,Nat.reduceEqDiff,F0F,l.load1 (o:=0) rfl]
 refine step_ret (one_ok S.ok (by omega) (by omega)) ?_;intro v h ⟨g,t⟩;replace S:=S.call g;clear g
 simp only [BS,LB,ae,Nat.reduceLT,Nat.reduceEqDiff]
 exact⟨S.gr,t⟩
theorem look2_ok{a:Hp}(k:a.t.Sized a.n){c:Gra}(d:eE c){e f i:Value}(l:cJ a e f i c){b:Nat}(m:Row a b [.int .i64 c.nodes,e,f,i] 1):Ret zB 158 [ptrTo b] a fun v j=>Gr a j/\mD 0 a.n v j:=by
 have S:=Si k
 refine ac (n:=4) (rs:=[.tmp 1]) rfl Tryz.e158 rfl rfl rfl (lbt rfl) ?_
 simp only [BS,LB,Nat.reduceLT,Nat.reduceEqDiff,F0G,m.load (o:=0) (n:=4) (lbt rfl)]
 refine step_ret (shapes_ok S.ok d l) ?_;intro v h ⟨g,t⟩;replace S:=S.call g;clear g
 simp only [BS,LB,ae,Nat.reduceLT,Nat.reduceEqDiff]
 exact⟨S.gr,t⟩
theorem look4_ok{a:Hp}(k:a.t.Sized a.n){c:Gra}(d:eE c){e f i:Value}(l:cJ a e f i c){b:Nat}(m:Row a b [.int .i64 c.nodes,e,f,i] 1):Ret zB 162 [ptrTo b] a fun v j=>Gr a j/\mD 0 a.n v j:=by
 have S:=Si k
 have p:=d.many
 refine ac (n:=6) (rs:=[.tmp 1]) rfl Tryz.e162 rfl rfl rfl (lbt rfl) ?_
 simp only [BS,LB,Nat.reduceLT,Nat.reduceEqDiff,F0H,m.load1 (o:=3) rfl,l.A.lenq]
 refine step_ret (one_ok S.ok (by omega) (by omega)) ?_;intro v h ⟨g,t⟩;replace S:=S.call g;clear g
 simp only [BS,LB,ae,Nat.reduceLT,Nat.reduceEqDiff]
 exact⟨S.gr,t⟩
theorem look3_ok{d:Hp}(x:d.t.Sized d.n){f:Gra}(a:eE f){l m s:Value}(t:cJ d l m s f){b q:Nat}(y: ∀c,ao l c->c<q)(z: ∀c,ao m c->c<q)(A:Row d b [.int .i64 f.nodes,l,m,s] 1):Ret zB 160 [ptrTo b] d fun v u=>Gr d u/\mD q d.n v u:=by
 have S:=Si x
 have B:=a.n2
 have C:=a.lX
 have D:=a.lY
 refine ac (n:=4) (rs:=[.tmp 1]) rfl Tryz.e160 rfl rfl rfl (lbt rfl) ?_
 simp only [BS,LB,Nat.reduceLT,Nat.reduceEqDiff,F0I,A.load (o:=0) (n:=4) (lbt rfl)]
 refine step_ret (nodes_ok S.ok) ?_;intro v h ⟨g,b2,e,q2,R⟩;replace S:=S.call g;clear g
 subst e
 simp only [BS,LB,ae,Nat.reduceLT,Nat.reduceEqDiff]
 refine⟨S.gr,_,#[],#[ptrTo b2],_,_,rfl,Aw S.ok R (t.X.gr S.gr) (t.Y.gr S.gr) (by omega) (by omega),fun p r=>?_,fun c j=>?_⟩
 . unfold plN at r
   simp only [List.mem_flatMap,XK,List.mem_cons,List.not_mem_nil,or_false]at r
   obtain⟨i,w,rfl|rfl⟩:=r
   . have:=a.cX f.X[i] (Xx w)
     simp only [Xd,Xo w,XG];omega
   . have k:i<f.Y.length:=by omega
     have:=a.cY f.Y[i] (Xx k)
     simp only [Xd,Xo k,XG];omega
 . rcases j with rfl|j|j
   . exact .inr q2
   . exact .inl (y c j)
   . exact .inl (z c j)
theorem look5_ok{a:Hp}(u:a.t.Sized a.n){f:Gra}(d:eE f){m q j:Value}(w:cJ a m q j f){b r:Nat}(x: ∀c,ao j c->c<r)(y:Row a b [.int .i64 f.nodes,m,q,j] 1):Ret zB 163 [ptrTo b] a fun v s=>Gr a s/\mD r a.n v s:=by
 have S:=Si u
 have z:=d.many
 refine ac (n:=4) (rs:=[.tmp 1]) rfl Tryz.e163 rfl rfl rfl (lbt rfl) ?_
 simp only [BS,LB,Nat.reduceLT,Nat.reduceEqDiff,F0J,y.load (o:=0) (n:=4) (lbt rfl)]
 refine step_ret (arcs_ok S.ok) ?_;intro v h ⟨g,b2,e,q2,R⟩;replace S:=S.call g;clear g
 subst e
 simp only [BS,LB,ae,Nat.reduceLT,Nat.reduceEqDiff]
 refine⟨S.gr,_,#[],#[ptrTo b2],_,_,rfl,arcs_iter S.ok R (w.A.gr S.gr) (by omega),fun p k=>?_,fun c l=>?_⟩
 . unfold plA at k
   simp only [List.mem_flatMap,XK,List.mem_cons,List.not_mem_nil,or_false]at k
   obtain⟨i,t,h⟩:=k
   have:=d.arcs f.arcs[i] (Xx t)
   simp only [Xd,Xo t,XG]at h
   rcases h with rfl|rfl|rfl<;>(simp only [];omega)
 . rcases l with rfl|l
   . exact .inr q2
   . exact .inl (x c l)
def Tryz.Fu:=aj t1<|aj t2<|aj t3<|aj t4<|aj t5<|aj t6<|aj Z1<|aj Z4<|aj t17<|aj Z19<|aj t20<|aj t23<|aj t35<|aj Z0<|aj Z3<|aj t51<|aj t106<|aj r106<|aj t108<|aj t170<|aj r170<|aj t233<|aj t235<|aj t237<|aj Z18<|Z15
theorem look_ok {s:Hp} (A:s.t.Sized s.n) {Q:Gra} (l:eE Q) {vx vy va:Value} (B:cJ s vx vy va Q):Ret zB 97 [fW Q vx vy va] s fun v f=>Gr s f:=by
 have S:=Si A
 refine ac (n:=44) (rs:=[]) rfl Tryz.e97 rfl rfl rfl (lbt rfl) ?_
 simp only [BS,Nat.reduceLT,fW]
 refine ag (bR (by intro x e;cases e)) S ?_;clear S;intro h b S aL;simp only [ah]at S
 simp only [BS,LB,Nat.reduceLT,Nat.reduceEqDiff]
 refine ag (bj (by exact Tryz.t237.1) (by exact Tryz.e235E) (by decide) (by rfl)) S ?_;clear S;intro h bs S af;simp only [LC,aR,bo,ah,Nat.reduceMul,Nat.reduceAdd,Xg,Xe,Xf,Xi]at S
 simp only [BS,LB,Nat.reduceLT,Nat.reduceEqDiff,Xk,Fu]
 have R: ∀i,i<5-> ∃g a c,[Value.func (.func 156) #[] #[.pointer (some ⟨b,0,none⟩)],.func (.func 158) #[] #[.pointer (some ⟨b,0,none⟩)],.func (.func 160) #[] #[.pointer (some ⟨b,0,none⟩)],.func (.func 162) #[] #[.pointer (some ⟨b,0,none⟩)],.func (.func 163) #[] #[.pointer (some ⟨b,0,none⟩)]][i]? =some (.func (.func g) a c)/\
  ∀f,Gr h f->Ret zB g (a.toList++c.toList) f fun v k=>Gr f k/\mD s.n f.n v k:=by
  intro i hi
  have t:=S.row (b:=b) m1
  have r:=B.gr S.gr
  have T: ∀f v k,Gr f k/\mD 0 f.n v k->Gr f k/\mD s.n f.n v k:=by
   rintro f v k ⟨a,U,a1,V,J,D,b1,b2,b3,C⟩
   exact⟨a,U,a1,V,J,D,b1,b2,b3,fun c u=>(C c u).elim (fun h=>by omega) .inr⟩
  match i,hi with
  |0,_=>exact⟨_,_,_,rfl,fun f g=>oV (look1_ok g.ok l (t.gr g)) (T f)⟩
  |1,_=>exact⟨_,_,_,rfl,fun f g=>oV (look2_ok g.ok l (r.gr g) (t.gr g)) (T f)⟩
  |2,_=>exact⟨_,_,_,rfl,fun f g=>look3_ok g.ok l (r.gr g) (fun c u=>B.X.lt A u) (fun c u=>B.Y.lt A u) (t.gr g)⟩
  |3,_=>exact⟨_,_,_,rfl,fun f g=>oV (look4_ok g.ok l (r.gr g) (t.gr g)) (T f)⟩
  |4,_=>exact⟨_,_,_,rfl,fun f g=>look5_ok g.ok l (r.gr g) (fun c u=>B.A.lt A u) (t.gr g)⟩
 have K:=S.row (b:=bs) m0
 have g0:=S.gr
 have E:=S.ok
 clear S B A
 revert R K
 generalize [Value.func (.func 156) #[] #[.pointer (some ⟨b,0,none⟩)],.func (.func 158) #[] #[.pointer (some ⟨b,0,none⟩)],.func (.func 160) #[] #[.pointer (some ⟨b,0,none⟩)],.func (.func 162) #[] #[.pointer (some ⟨b,0,none⟩)],.func (.func 163) #[] #[.pointer (some ⟨b,0,none⟩)]]=fs
 intro R K
 rename Hp=>G
 have a0:=K.lt E
 have a3:=g0.n
 have S:=Si E
 refine pk (fun(i:Nat) M d f=>i<=5/\ ∃j:List Nat,d=j.map pD/\St NoM G f (cR j) []/\M 10=.slice (some ⟨bs,0,none⟩) 5 5/\M 11=.int .i64 5/\M 12=.int .i64 i) (fun i=>5-i) ?_ 0 _ _ _ ?_
 . clear S
   intro i ih M d h ⟨hi,j,N,S,r10,r11,r12⟩
   have w:am .i64 ((i:Int)+1)=((i+1:Nat):Int):=by rw [wrap64]<;>omega
   by_cases hlt:i<5
   . obtain⟨g,a,c,W,t⟩:=R i hlt
     have Rl:=(K.gr S.gr).load1 W
     have m:(i:Int)<5:=by omega
     simp only [BS,LB,Nat.reduceLT,Nat.reduceEqDiff,Fu,r10,r11,r12,m,hlt,Rl]
     refine ag aw S ?_;clear S;intro h b2 S ai
     simp only [BS,LB,Nat.reduceLT,Nat.reduceEqDiff]
     refine ax (av S (i:=0) rfl ?_ ?_ ?_ ono) ?_
     . exact(by simp only [Fu])
     . exact(by exact bZ)
     . exact Xc (lbt rfl)
     clear S;rintro h ⟨S,Y⟩;clear Y;simp only [LC,ah,lay,Xa,Xb,Nat.reduceAdd]at S
     simp only [BS,LB,Nat.reduceLT,Nat.reduceEqDiff]
     replace S:=S.drop1
     have kl: ∀b∈keys (cR j) [],b<h.n:=fun b q=>S.key_lt q
     refine step_ret (t _ S.gr) ?_;intro v h ⟨g,U,V,post,J,D,e,it,hps,hD⟩;replace S:=S.call g;clear g
     subst e
     simp only [BS]
     refine jv S (g:=U) (a:=V) (b:=post) (by simp [cy,aa]) rfl rfl ?_
     intro O H I z a4 a5 g2
     obtain⟨X,hX,z⟩: ∃X:fG,X=_/\St NoM G O ((I,.loop X)::(H,.dfr)::cR j) []:=⟨_,rfl,z⟩
     have hJ:Yld zB I (fun _ f F=>St NoM G f ((I,.loop X)::(H,.dfr)::cR j) []/\F=keys ((I,.loop X)::(H,.dfr)::cR j) []) (fun _ _=>False) (J.map fun p=>[.agg ⟨jb p⟩]):=by
      refine⟨?_,?_,fun _ _ h=>h.elim,?_⟩
      . rintro i h F ⟨S,rfl⟩;exact⟨S.ok,fun b q=>S.key_lt q⟩
      . rintro i h F f ⟨S,rfl⟩ g;exact⟨S.call g,rfl⟩
      . rintro i x h F hx ⟨S,rfl⟩
        obtain⟨p,hp,rfl⟩: ∃p∈J,x=[.agg ⟨jb p⟩]:=by
         rw [Xp,Option.map_eq_some_iff]at hx
         obtain⟨p,G,O⟩:=hx
         exact⟨p,Xs G,O.symm⟩
        obtain⟨p1,p2⟩:=hps p hp
        have Z: ¬p.n<p.lo:=by omega
        have ad: ¬p.hi<=p.n:=by omega
        subst hX
        refine jx (S.get m0) (by rw [Tryz.e97];rfl) rfl ?_
        have S0:=S
        replace S:=S.base
        simp only [BS,Fu]
        refine ag aw S ?_;clear S;intro h C S ak
        simp only [BS,LB,Nat.reduceLT,Nat.reduceEqDiff,jb]
        refine ax (S.store (i:=0) rfl ?_ ?_ rfl rfl ?_ ono) ?_
        . exact(by exact Tryz.t239.2.1)
        . exact(by intro x e;cases e)
        . exact lbt rfl
        clear S;rintro h ⟨S,Y⟩;clear Y;simp only [LC,ah,lay,Xa,Xb,Nat.reduceAdd]at S
        simp only [BS]
        refine iK S (i:=1) rfl rfl rfl rfl rfl ?_
        clear S;intro h S
        simp only [BS,LB,Nat.reduceLT,Nat.reduceEqDiff,Fu,Z,ad,S.ld (b:=C) (o:=3) m0 rfl,S.ld (b:=C) (o:=4) m0 rfl,S.ld (b:=C) (o:=5) m0 rfl]
        refine eZ S (i:=1) rfl ?_
        clear S;intro h S
        exact .inl ⟨rfl,_,⟨S0.rebase S.drop1,rfl⟩,S.fr,S.drop1.key_new⟩
     refine gL (yW it hJ (h:=O) (F:=keys ((I,.loop _)::(H,.dfr)::cR j) []) g2.fr (fun b q hlt=>?_) ⟨z,rfl⟩) fun o rc f y=>kC y ?_
     . intro N
       have P:=z.key_own q
       rcases hD b N with hh|hh
       . rcases P with P|P
         . omega
         . exact P
       . rcases List.mem_cons.1 q with rfl|q
         . omega
         . rcases List.mem_cons.1 q with rfl|q
           . omega
           . have:=kl b q;omega
     . rintro F ⟨S,rfl⟩
       subst hX
       refine⟨_,S.get m0,Nat.zero_ne_one,?_⟩
       replace S:=S.dead
       show Run _ _ _ _ _ _ _ _
       simp only [BS,LB,Nat.reduceLT,Nat.reduceEqDiff,r12,w]
       exact ih (i+1) _ _ _ (by omega) ⟨by omega,H::j,by rw [N];rfl,S,by simp [aa,r10],by simp [aa,r11],by simp [aa]⟩
   . have m: ¬(i:Int)<5:=by omega
     simp only [BS,LB,Nat.reduceLT,r11,r12,m]
     subst N
     refine dZ (ku j h (L:=[]) (by rw [XB];exact S) fun f z=>⟨rfl,_,rfl,g0.trans z.gr⟩)
 . exact⟨by omega,[],rfl,S,by simp [aa],by simp [aa],by simp [aa]⟩
end Go.Ab
end
section
namespace Go.Ab
theorem au.form{d:Type}{h:Hp}{k:Nat}{enc:d->List Value}{v:Value}{xs:List d}(s:au h k enc v xs): ∃a n c,v=.slice a n c:=by
 rcases s with⟨rfl,_⟩|⟨b,o,s,c,rfl,_⟩<;>exact⟨_,_,_,rfl⟩
section
variable{M:Nat->Prop}{h0 h:Hp}{E:Env}{L:List (Nat×Ob)}{G:List GL}
def WrK{a:Type}(h:Hp)(k:Nat)(enc:a->List Value)(w:Value)(l:List a):Prop:=l≠ []-> ∃b,w=.slice (some ⟨b,0,some k⟩) l.length l.length/\Row h b (l.flatMap enc) 1
theorem WrK.mo{a:Type}{M:Nat->Prop}{h c:Hp}{k:Nat}{enc:a->List Value}{w:Value}{l:List a}(r:WrK h k enc w l)(g:Mo M h c)(d: ∀b,ao w b-> ¬M b):WrK c k enc w l:=
 fun f=>by obtain⟨b,e,k⟩:=r f;exact⟨b,e,g.has (o:=.row _ 1) k (d b (by rw [e];rfl))⟩
theorem St.cloneW{m:Type}{enc:m->List Value}{ys:List m}(S:St M h0 h L G){t i e:TypeId}{d k md:Nat}{A:List Value}{b:Nat}{x:Value}(o:E.und t=some (.slice e))(p:dE E e d k A)(q:0<d)
 (r:dz E i=some false) (s:au h k enc x ys) (f: ∀x,(enc x).length=k) (u:0<k) (g:(ys.length*k)*(d+1)<=70368744177664) {ts:List TypeId}
 (v:Row h b [] md):
 ∃a v',cS E h (t::i::ts) (.slice (some ⟨b,0,none⟩) 0 0) x=some (a,v')/\St M h0 a L G/\Gr h a/\au a k enc v' ys/\(∀c,ao v' c->c=b\/h.n<=c)/\WrK a k enc v' ys:=by
 obtain⟨a,v',w,B,C,D,F⟩:=S.cloneSl (enc:=enc) (xs:=[]) o p q r s f u (by simpa using g) (ts:=ts) (b:=b) (md:=md) (by simpa using v)
 refine⟨a,v',w,B,C,by simpa using D,F,fun j=>?_⟩
 obtain⟨H,I,y,J⟩:=S.clone o p q r s.src (aW f ys).symm (n:=0) (by simp) u (by rw [aW f];simpa using g) (ts:=ts) v
 have l:cS E h (t::i::ts) (.slice (some ⟨b,0,none⟩) 0 0) x=some (a,v'):=w
 rw [l]at y
 cases y
 rcases J with⟨K,_⟩|⟨z,N,T⟩
 . exact absurd (List.length_eq_zero_iff.1 K) j
 . refine⟨z,by rw [N,Xe],?_⟩
   have:=T.row (b:=z) m0
   simpa using this
end
end Go.Ab

end
section
namespace Go.Ab
open Go.Proofs
set_option maxRecDepth 10000
def Tryz.F0K:=aj t1<|aj t2<|aj t3<|aj t4<|aj t5<|aj t20<|aj t48<|aj t106<|aj r106<|aj t108<|aj t170<|r170
def Tryz.FU:=aj t1<|aj t2<|aj t3<|aj t23<|aj t35<|aj Z0<|aj Z3<|t48
def Tryz.F05:=aj t1<|aj t2<|aj t3<|aj t4<|t23
def Tryz.F06:=aj t1<|aj t2<|aj t3<|aj t4<|aj t35<|Z3
theorem check1_ok{a:Hp}(c:a.t.Sized a.n){b:Nat}:fh zB 96 [ptrTo b] none a fun o d e=>(∃v,o=.ret v)/\d=none/\Gr a e:=by
 have S:=Si c
 refine enter (n:=17) (rs:=[]) rfl Tryz.e96 rfl rfl rfl (lbt rfl) ?_
 simp only [BS,LB,Nat.reduceLT,Nat.reduceEqDiff,F0K]
 exact dZ (dV ⟨rfl,_,rfl,⟨_,rfl⟩,rfl,S.gr⟩)
theorem check_ok{c:Hp}(q:c.t.Sized c.n){d:Gra}(f:eE d){j k m:Value}(r:cJ c j k m d):bC zB 42 [fW d j k m] c .nilIface:=by
 have S:=Si q
 refine ac (n:=6) (rs:=[.cell 2 48]) rfl Tryz.e42 rfl rfl rfl (lbt rfl) ?_
 simp only [BS,Nat.reduceLT,fW]
 refine ag (bR (by intro x e;cases e)) S ?_;clear S;intro h b S s;simp only [ah]at S
 simp only [BS,FU]
 refine ag aw S ?_;clear S;intro h t S p
 simp only [BS,LB,Nat.reduceLT,Nat.reduceEqDiff,FU,S.lds (b:=b) (o:=0) (n:=4) m1 (lbt rfl)]
 refine step_ret (look_ok S.ok f (r.gr S.gr)) ?_;intro v h g;replace S:=S.call g;clear g
 simp only [BS,LB,Nat.reduceLT,Nat.reduceEqDiff]
 refine ax (av S (i:=0) rfl ?_ ?_ ?_ ono) ?_
 . exact(by simp only [FU])
 . exact(by exact fl_nili)
 . exact Xc (lbt rfl)
 clear S;rintro h ⟨S,u⟩;clear u;simp only [LC,ah,lay,Xa,Xb,Nat.reduceAdd]at S
 simp only [BS]
 refine gP (un_fn (gL (check1_ok S.ok) fun o w y ⟨a,b,g⟩=>⟨a,b,dV ⟨rfl,?_⟩⟩))
 replace S:=S.call g
 have l:=S.ld (b:=t) (o:=0) m0 rfl
 exact⟨_,sb (by decide) (by simp only [bK,ab,Nat.reduceEqDiff,reduceIte];exact A1 Tryz.t48.1 l),rfl,S.gr⟩
theorem qL{a:Hp}(j:a.t.Sized a.n){v:Value}{xs:List Int}(k:au a 1 (encI .i64) v xs)(t:xs.length<1000000):Ret zB 90 [v] a fun r d=>Gr a d/\au d 1 (encI .i64) r xs/\ ∀c,ao r c->a.n<=c:=by
 have S:=Si j
 rcases k with⟨rfl,rfl⟩|⟨b,o,s,c,rfl,l,m⟩
 . refine ac (n:=8) (rs:=[.tmp 2]) rfl Tryz.e90 rfl rfl rfl (lbt rfl) ?_
   simp only [BS,LB,ae,Nat.reduceLT,Nat.reduceEqDiff,F05]
   exact⟨S.gr,.inl ⟨rfl,rfl⟩,fun c f=>f.elim⟩
 . refine ac (n:=8) (rs:=[.tmp 2]) rfl Tryz.e90 rfl rfl rfl (lbt rfl) ?_
   simp only [BS,LB,Nat.reduceLT,Nat.reduceEqDiff,F05]
   refine ag (bj (by exact Tryz.t23.1) (by exact Tryz.e2E) (by decide) (by rfl)) S ?_;clear S;intro h u S i;simp only [LC,aR,bo,ah,Nat.reduceMul,Nat.reduceAdd,Xg,Xe,Xf,Xi]at S
   simp only [BS,LB,Nat.reduceLT,Nat.reduceEqDiff]
   refine dX (S.cloneSl (enc:=encI .i64) (xs:=[]) Tryz.t23.1 Tryz.e2E (by decide) Tryz.t23.2.2.2.2.2 (.inr ⟨b,o,s,c,rfl,l,S.old m (fun h=>h)⟩) (fun x=>rfl) (by decide) (by simp only [List.length_nil,Xe];omega) (S.row m0)) ?_
   rintro d v ⟨p,g,q,f⟩
   simp only [BS,LB,ae,Nat.reduceLT,Nat.reduceEqDiff]
   refine⟨p.gr,by simpa using q,fun c h=>(f c h).elim (fun e=>by omega) (fun e=>Xl S.fr.n e)⟩
theorem z9{a:Hp}(j:a.t.Sized a.n){v:Value}{xs:List Arc}(k:au a 3 (cw) v xs)(t:xs.length<1000000):Ret zB 91 [v] a fun r d=>Gr a d/\au d 3 (cw) r xs/\(∀c,ao r c->a.n<=c)/\WrK d 3 cw r xs:=by
 have S:=Si j
 rcases k with⟨rfl,rfl⟩|⟨b,o,s,c,rfl,l,m⟩
 . refine ac (n:=8) (rs:=[.tmp 2]) rfl Tryz.e91 rfl rfl rfl (lbt rfl) ?_
   simp only [BS,LB,ae,Nat.reduceLT,Nat.reduceEqDiff,F06]
   exact⟨S.gr,.inl ⟨rfl,rfl⟩,fun c f=>f.elim,fun h=>absurd rfl h⟩
 . refine ac (n:=8) (rs:=[.tmp 2]) rfl Tryz.e91 rfl rfl rfl (lbt rfl) ?_
   simp only [BS,LB,Nat.reduceLT,Nat.reduceEqDiff,F06]
   refine ag (bj (by exact Tryz.t35.1) (by exact Tryz.e46E) (by decide) (by rfl)) S ?_;clear S;intro h u S i;simp only [LC,aR,bo,ah,Nat.reduceMul,Nat.reduceAdd,Xg,Xe,Xf,Xi]at S
   simp only [BS,LB,Nat.reduceLT,Nat.reduceEqDiff]
   refine dX (S.cloneW (enc:=cw) (ys:=xs) Tryz.t35.1 Tryz.e46E (by decide) Tryz.t35.2.2.2.2.2 (.inr ⟨b,o,s,c,rfl,l,S.old m (fun h=>h)⟩) (fun x=>rfl) (by decide) (by omega) (S.row m0)) ?_
   rintro d v ⟨p,g,q,f,w⟩
   simp only [BS,LB,ae,Nat.reduceLT,Nat.reduceEqDiff]
   exact⟨p.gr,q,fun c h=>(f c h).elim (fun e=>by omega) (fun e=>Xl S.fr.n e),w⟩
def Tryz.FH:=aj t1<|aj t2<|aj t3<|aj t4<|aj t5<|aj t22<|aj t84<|aj t86<|r86
structure nA(h:Hp)(bd:Nat)(vB:Value)(xs:List Int)(a:Nat):Prop where
 sl:au h 1 (encI .u8) vB xs
 ne: ¬ao vB bd
 few:xs.length<1000000
 at_:a<100000
def drV(xs:List Int)(n a:Nat):Nat:=if h:xs.length=0 then 0 else(am .u8 (xs[a%xs.length]'(Nat.mod_lt _ (by omega))+am .u8 (am .i64 ((a:Int).tdiv (xs.length:Int))))%(n:Int)).toNat
theorem yv{f:Hp}(C:f.t.Sized f.n){d a n:Nat}{g:Value}{xs:List Int}(p:Row f d [g,.int .i64 a] 1)(D:nA f d g xs a)(L:1<=n)(E:n<1000):
 Ret zB 82 [ptrTo d,.int .i64 n] f fun v x=>Mo (· =d) f x/\ ∃r y:Nat,v=.int .i64 r/\r<n/\y<=a+1/\Row x d [g,.int .i64 y] 1/\r=drV xs n a:=by
 have S:=St.init1 C (o:=.row [g,.int .i64 a] 1) p
 obtain⟨s,u,M,N⟩:=D
 have O:=s.fl
 have F:am .i64 ((a:Int)+1)=((a+1:Nat):Int):=by rw [wrap64]<;>omega
 have G:am .i64 (((a+1:Nat):Int)-1)=(a:Int):=by rw [wrap64]<;>omega
 have H: ¬(n:Int)<1:=by omega
 by_cases j:xs.length=0
 . have t:(xs.length:Int)=0:=by omega
   refine ac (n:=55) (rs:=[.tmp 4]) rfl Tryz.e82 rfl rfl rfl (lbt rfl) ?_
   simp only [BS,LB,ae,Nat.reduceLT,Nat.reduceEqDiff,FH,s.lenq,t,S.ld (b:=d) (o:=0) m0 rfl]
   exact⟨S.fr,0,a,rfl,by omega,by omega,S.row m0,by unfold drV;rw [dif_pos j]⟩
 . have t: ¬(xs.length:Int)=0:=by omega
   have k:a%xs.length<xs.length:=Nat.mod_lt _ (by omega)
   have I:(a:Int).tmod (xs.length:Int)=((a%xs.length:Nat):Int):=by rw [Xy (by omega)];exact(Int.natCast_emod _ _).symm
   refine ac (n:=55) (rs:=[.tmp 4]) rfl Tryz.e82 rfl rfl rfl (lbt rfl) ?_
   simp only [BS,LB,Nat.reduceLT,Nat.reduceEqDiff,FH,s.lenq,t,H,F,S.ld (b:=d) (o:=0) m0 rfl,S.ld (b:=d) (o:=1) m0 rfl]
   refine ax (av S (i:=0) rfl ?_ ?_ ?_ ono) ?_
   . exact(by simp only [FH])
   . exact(by exact bZ)
   . exact Xc (lbt rfl)
   clear S;rintro h ⟨S,J⟩;clear J;simp only [LC,ah,lay,Xa,Xb,Nat.reduceAdd]at S
   have l:au h 1 (encI .u8) g xs:=s.mo S.fr (fun b K e=>u (e▸K))
   obtain⟨c,o,m,w⟩:=l.ix (kd:=.i64) (aM _) k
   have A:(xs.length:Int)≠0:=t
   have B:(n:Int)≠0:=by omega
   simp only [BS]
   refine ar (ay rfl) (q:=0) (ps:=[]) (by kernel_rfl) ?_
   simp only [BS,LB,cE,aN,cM,cls,ae,Nat.reduceLT,Nat.reduceEqDiff,Nat.reduceAdd,Nat.reducePow,Nat.reduceDiv,Nat.reduceMod,Nat.reduceLeDiff,FH,l.lenq,G,eP A,jC A,eP B,I,m,w,encI,S.ld (b:=d) (o:=0) m0 rfl,S.ld (b:=d) (o:=1) m0 rfl]
   have p:(am .i64 (am .u8 (xs[a%xs.length]+am .u8 (am .i64 ((a:Int).tdiv (xs.length:Int)))))).tmod (n:Int)=((drV xs n a:Nat):Int)/\drV xs n a<n:=by
    unfold drV
    rw [dif_neg j]
    generalize xs[a%xs.length]+am .u8 (am .i64 ((a:Int).tdiv (xs.length:Int)))=z
    have P:=wrap8 z
    rw [wrap64 (by omega) (by omega),Xy (by omega)]
    have Q:=Int.emod_nonneg (am .u8 z) B
    have R:=Int.emod_lt_of_pos (am .u8 z) (show(0:Int)<n by omega)
    exact⟨by omega,by omega⟩
   rw [p.1]
   exact⟨S.fr,_,a+1,rfl,p.2,XD _,S.row m0,rfl⟩
theorem gz{b:Hp}(j:b.t.Sized b.n){c a n:Nat}{g:Value}{xs:List Int}(k:Row b c [g,.int .i64 a] 1)(l:nA b c g xs a)(m:1<=n)(h:n<1000):
 Ret zB 82 [ptrTo c,.int .i64 n] b fun v i=>Mo (· =c) b i/\ ∃r d:Nat,v=.int .i64 r/\r<n/\d<=a+1/\Row i c [g,.int .i64 d] 1:=
 (yv j k l m h).mono fun v i ⟨f,r,d,e,o,p,q,_⟩=>⟨f,r,d,e,o,p,q⟩
theorem nA.mo{h g:Hp}{c:Nat}{i:Value}{xs:List Int}{a j:Nat}(d:nA h c i xs a)(f:Mo (· =c) h g)(k:j<100000):nA g c i xs j:=
 ⟨d.sl.mo f (fun b l e=>d.ne (e▸l)),d.ne,d.few,k⟩
theorem nA.gr{h b:Hp}{c:Nat}{e:Value}{xs:List Int}{a:Nat}(d:nA h c e xs a)(g:Gr h b):nA b c e xs a:=⟨d.sl.gr g,d.ne,d.few,d.at_⟩
theorem wJ{d:Hp}(z:d.t.Sized d.n){e a:Nat}{g:Value}{xs:List Int}(A:Row d e [g,.int .i64 a] 1)(t:nA d e g xs a)(E:a+2<100000):
 Ret zB 83 [ptrTo e] d fun v u=>Mo (· =e) d u/\ ∃r w:Nat,v=.int .i64 r/\r<=2147483647/\w<=a+2/\Row u e [g,.int .i64 w] 1:=by
 have S:=St.init1 z (o:=.row [g,.int .i64 a] 1) A
 refine ac (n:=24) (rs:=[.tmp 2]) rfl Tryz.e83 rfl rfl rfl (lbt rfl) ?_
 simp only [BS,LB,Nat.reduceLT,Nat.reduceEqDiff]
 refine step_ret (gz (n:=12) S.ok (S.row m0) t (by omega) (by omega)) ?_
 rintro v h ⟨f,r,x,rfl,B,C,D⟩
 replace S:=S.call1 (i:=0) rfl f (o':=.row _ _) D
 have c:nA h e g xs x:=t.mo f (by omega)
 simp only [LC]at S
 by_cases q:(r:Int)<3
 . simp only [BS,LB,ae,Nat.reduceLT,Nat.reduceEqDiff,q]
   exact⟨S.fr,0,x,rfl,by omega,by omega,S.row m0⟩
 . by_cases s:(r:Int)<10
   . simp only [BS,LB,Nat.reduceLT,Nat.reduceEqDiff,q,s]
     refine step_ret (gz (n:=9) S.ok (S.row m0) c (by omega) (by omega)) ?_
     rintro v h ⟨f,b,j,rfl,k,l,m⟩
     replace S:=S.call1 (i:=0) rfl f (o':=.row _ _) m
     simp only [LC]at S
     have p:am .i64 (1+(b:Int))=((1+b:Nat):Int):=by rw [wrap64]<;>omega
     simp only [BS,LB,ae,Nat.reduceLT,Nat.reduceEqDiff,p]
     exact⟨S.fr,1+b,j,rfl,by omega,by omega,S.row m0⟩
   . by_cases y:(r:Int)<11
     . simp only [BS,LB,Nat.reduceLT,Nat.reduceEqDiff,q,s,y]
       refine step_ret (gz (n:=20) S.ok (S.row m0) c (by omega) (by omega)) ?_
       rintro v h ⟨f,b,j,rfl,k,l,m⟩
       replace S:=S.call1 (i:=0) rfl f (o':=.row _ _) m
       simp only [LC]at S
       have p:am .i64 (100*(b:Int))=((100*b:Nat):Int):=by rw [wrap64]<;>omega
       simp only [BS,LB,ae,Nat.reduceLT,Nat.reduceEqDiff,p]
       exact⟨S.fr,100*b,j,rfl,by omega,by omega,S.row m0⟩
     . simp only [BS,LB,Nat.reduceLT,Nat.reduceEqDiff,q,s,y]
       refine step_ret (gz (n:=2) S.ok (S.row m0) c (by omega) (by omega)) ?_
       rintro v h ⟨f,b,j,rfl,k,l,m⟩
       replace S:=S.call1 (i:=0) rfl f (o':=.row _ _) m
       simp only [LC]at S
       have p:am .i64 (2147483647-(b:Int))=((2147483647-b:Nat):Int):=by rw [wrap64]<;>omega
       simp only [BS,LB,ae,Nat.reduceLT,Nat.reduceEqDiff,p]
       exact⟨S.fr,2147483647-b,j,rfl,by omega,by omega,S.row m0⟩
def Tryz.F5:=aj t1<|aj t2<|aj t3<|aj t4<|aj t5<|aj t6<|aj Z1<|aj Z4<|aj t9<|aj t10<|aj t11<|aj t12<|aj Z7<|aj Z13<|aj t15<|aj t16<|aj t17<|aj t18<|aj r18<|aj Z19<|aj t20<|aj t21<|aj t22<|aj t23<|aj t35<|aj Z0<|aj Z3<|aj t76<|aj t84<|aj t86<|aj r86<|aj t161<|aj t248<|aj Z16<|aj t356<|aj t358<|aj t360<|aj t361<|aj t362<|aj t363<|Z15
def ints(l:List Int):List Value:=l.flatMap (encI .i64)
theorem bD(l:List Int):(ints l).length=l.length:=by unfold ints;rw [aW (k:=1) (fun _=>rfl)];omega
theorem ia(l m:List Int):ints (l++m)=ints l++ints m:=by unfold ints;rw [Xm]
theorem raw0_ok {J:Hp} (ok:J.t.Sized J.n) {B:Nat} {W:Value} {xs:List Int} (hr:Row J B [W,.int .i64 ((0:Nat):Int)] 1) (Q:nA J B W xs 0):
 Ret zB 29 [ptrTo B] J fun v h'=>Mo (· =B) J h'/\ ∃γ vx vy va,v=fW γ vx vy va/\Good γ/\γ.nodes=1+drV xs 12 0/\cJ h' vx vy va γ/\ ∀c,(ao vx c\/ao vy c\/ao va c)->J.n<=c:=by
 have S:=St.init1 ok (o:=.row [W,.int .i64 ((0:Nat):Int)] 1) hr
 have b1:=hr.lt ok
 refine ac (n:=117) (rs:=[.cell 2 37]) rfl Tryz.e29 rfl rfl rfl (lbt rfl) ?_
 simp only [BS,F5]
 refine ag aw S ?_;clear S;intro h M S bP
 simp only [BS,LB,Nat.reduceLT,Nat.reduceEqDiff]
 refine step_ret (yv (n:=12) (a:=0) S.ok (S.row m1) (Q.mo S.fr (by omega)) (by omega) (by omega)) ?_
 rintro v h ⟨f,r,a0,rfl,b4,b5,R,b6⟩
 replace S:=S.call1 (i:=1) rfl f (o':=.row _ _) R
 simp only [LC]at S
 have w1:am .i64 (1+(r:Int))=((1+r:Nat):Int):=by rw [wrap64]<;>omega
 simp only [BS,LB,Nat.reduceLT,Nat.reduceEqDiff,Nat.reduceAdd,F5,w1]
 refine ag aw S ?_;clear S;intro h s S bT
 simp only [BS,LB,Nat.reduceLT,Nat.reduceEqDiff]
 refine ax (S.store (i:=0) rfl ?_ ?_ rfl rfl ?_ ono) ?_
 . exact(by exact Tryz.t7.2.1)
 . exact(by intro x e;cases e)
 . exact lbt rfl
 clear S;rintro h ⟨S,O⟩;clear O;simp only [LC,ah,lay,Xa,Xb,Nat.reduceAdd]at S
 simp only [BS]
 replace S:=((S.nilG (k:=3)).nilG (k:=1)).nilG (k:=1)
 generalize hN:1+r=N at S
 refine aD (fun(i:Nat) g h=>i<=N/\ ∃(a:Nat) (D G:Value) (X Y:List Int),a<=1+2*i/\X.length=i/\Y.length=i/\(∀x∈X,-2147483648<=x/\x<=2147483647)/\(∀x∈Y,-2147483648<=x/\x<=2147483647)/\
  St (· =B) J h [(s,.row [.int .i64 N,D,G,.slice none 0 0] 1),(M,.row [.int .i64 0,.slice none 0 0,.slice none 0 0,.slice none 0 0] 1),(B,.row [W,.int .i64 a] 1)] [(D,1,ints X),(G,1,ints Y),(.slice none 0 0,3,[])]/\
  g 0=ptrTo B/\g 2=ptrTo M/\g 3=ptrTo s/\g 4=.int .i64 i) (fun i=>N-i) ?_ 0 _ _ ?_
 . clear S
   intro i U g h ⟨hi,a,D,G,X,Y,ha,lX,lY,cX,cY,S,r,y,d,r4⟩
   by_cases hlt:i<N
   . simp only [BS,LB,Nat.reduceLT,Nat.reduceEqDiff,F5,d,r4,aq,hlt,S.ld (b:=s) (o:=0) m0 rfl]
     refine ar (ay rfl) (q:=32) (ps:=[(1,3)]) (by kernel_rfl) ?_
     simp only [BS,LB,cls,Nat.reduceLT,Nat.reduceEqDiff,Nat.reduceAdd,Nat.reducePow,Nat.reduceDiv,Nat.reduceMod,Nat.reduceLeDiff,F5,r,d,S.ld (b:=s) (o:=1) m0 rfl]
     refine c6 (gz (n:=9) (a:=a) S.ok (S.row m2) (Q.mo S.fr (by omega)) (by omega) (by omega)) ?_
     rintro v h ⟨f,r1,a1,rfl,b7,bn,R⟩
     have hl:=S.leaves (c:=s) m0 f (by omega)
     replace S:=S.call1 (i:=2) rfl f (o':=.row _ _) R
     simp only [LC]at S
     have w9:am .i64 ((r1:Int)-3)=(r1:Int)-3:=by rw [wrap64]<;>omega
     simp only [BS,LB,cls,Nat.reduceLT,Nat.reduceEqDiff,Nat.reduceAdd,Nat.reducePow,Nat.reduceDiv,Nat.reduceMod,Nat.reduceLeDiff,w9]
     refine fe (bj (by exact Tryz.t23.1) (by exact Tryz.e2E) (by decide) (by rfl)) S ?_;clear S;intro h Z S K af;simp only [LC,aR,bo,ah,Nat.reduceMul,Nat.reduceAdd,Xg,Xe,Xf,Xi]at S
     simp only [BS,LB,cls,Nat.reduceLT,Nat.reduceEqDiff,Nat.reduceAdd,Nat.reducePow,Nat.reduceDiv,Nat.reduceMod,Nat.reduceLeDiff]
     refine kJ (S.grow (j:=0) (m:=1) (new:=ints [(r1:Int)-3]) rfl Tryz.t23.1 Tryz.e2E (by decide) Tryz.t23.2.2.2.2.2 (by simp only [aI];rw [S.lds (b:=Z) (o:=0) (n:=1*1) m0 (lbt rfl)];rfl) rfl (by decide) rfl (by rw [bD,bD];simp;omega)) ?_
     clear S
     rintro h ba S
     simp only [LC]at S
     replace S:=S.drop1
     rw [<-ia]at S
     have fX:Fl ba:=(S.gown _ m0).1.fl
     simp only [BS,LB,cls,Nat.reduceLT,Nat.reduceEqDiff,Nat.reduceAdd,Nat.reducePow,Nat.reduceDiv,Nat.reduceMod,Nat.reduceLeDiff,F5,d]
     refine ep (av S (i:=0) rfl ?_ ?_ ?_ ono) ?_
     . exact(by simp only [F5])
     . exact(by assumption)
     . exact Xc (lbt rfl)
     clear S;rintro h ⟨S,O⟩;clear O;simp only [LC,ah,lay,Xa,Xb,Nat.reduceAdd]at S
     simp only [BS,Nat.reduceAdd]
     refine⟨by simp only [bQ,bW,bE,cd,bM,ne_eq,not_false_eq_true,ce,cB,bO,bN,cy,dr,bK,Nat.reduceLT,Nat.reduceEqDiff,reduceIte,Xr,d,ab,aQ hl],?_⟩
     refine ar (ay rfl) (q:=16) (ps:=[(1,3)]) (by kernel_rfl) ?_
     simp only [BS,LB,cls,Nat.reduceLT,Nat.reduceEqDiff,Nat.reduceAdd,Nat.reducePow,Nat.reduceDiv,Nat.reduceMod,Nat.reduceLeDiff,F5,r,d,S.ld (b:=s) (o:=2) m0 rfl]
     clear f hl R
     refine c6 (gz (n:=7) (a:=a1) S.ok (S.row m2) (Q.mo S.fr (by omega)) (by omega) (by omega)) ?_
     rintro v h ⟨f,H,a2,rfl,bp,bq,R⟩
     have hl:=S.leaves (c:=s) m0 f (by omega)
     replace S:=S.call1 (i:=2) rfl f (o':=.row _ _) R
     simp only [LC]at S
     simp only [BS,LB,cls,Nat.reduceLT,Nat.reduceEqDiff,Nat.reduceAdd,Nat.reducePow,Nat.reduceDiv,Nat.reduceMod,Nat.reduceLeDiff]
     refine fe (bj (by exact Tryz.t23.1) (by exact Tryz.e2E) (by decide) (by rfl)) S ?_;clear S;intro h Z S K af;simp only [LC,aR,bo,ah,Nat.reduceMul,Nat.reduceAdd,Xg,Xe,Xf,Xi]at S
     simp only [BS,LB,cls,Nat.reduceLT,Nat.reduceEqDiff,Nat.reduceAdd,Nat.reducePow,Nat.reduceDiv,Nat.reduceMod,Nat.reduceLeDiff]
     refine kJ (S.grow (j:=1) (m:=1) (new:=ints [(H:Int)]) rfl Tryz.t23.1 Tryz.e2E (by decide) Tryz.t23.2.2.2.2.2 (by simp only [aI];rw [S.lds (b:=Z) (o:=0) (n:=1*1) m0 (lbt rfl)];rfl) rfl (by decide) rfl (by rw [bD,bD];simp;omega)) ?_
     clear S
     rintro h bb S
     simp only [LC]at S
     replace S:=S.drop1
     rw [<-ia]at S
     have fY:Fl bb:=(S.gown _ m1).1.fl
     simp only [BS,LB,cls,Nat.reduceLT,Nat.reduceEqDiff,Nat.reduceAdd,Nat.reducePow,Nat.reduceDiv,Nat.reduceMod,Nat.reduceLeDiff,F5,d]
     refine ep (av S (i:=0) rfl ?_ ?_ ?_ ono) ?_
     . exact(by simp only [F5])
     . exact(by assumption)
     . exact Xc (lbt rfl)
     clear S;rintro h ⟨S,O⟩;clear O;simp only [LC,ah,lay,Xa,Xb,Nat.reduceAdd]at S
     simp only [BS,LB,Nat.reduceLT,Nat.reduceEqDiff,Nat.reduceAdd,r4]
     refine⟨by simp only [bQ,bW,bE,cd,bM,ne_eq,not_false_eq_true,ce,cB,bO,bN,cy,dr,bK,Nat.reduceLT,Nat.reduceEqDiff,reduceIte,Xr,d,ab,aQ hl],?_⟩
     have w:am .i64 ((i:Int)+1)=((i+1:Nat):Int):=by rw [wrap64]<;>omega
     simp only [w]
     exact U (i+1) _ _ (by omega) ⟨by omega,a2,ba,bb,_,_,by omega,by simp [lX],by simp [lY],
      fun x F=>(List.mem_append.1 F).elim (cX x) (fun h=>by simp at h;omega),fun x F=>(List.mem_append.1 F).elim (cY x) (fun h=>by simp at h;omega),S,by simp [aa,r,ab],by simp [aa,y,ab],by simp [aa,d,ab],by simp [aa]⟩
   . have br : i=N:=by omega
     subst br
     simp only [BS,LB,Nat.reduceLT,Nat.reduceEqDiff,F5,r,d,r4,aq,hlt,S.ld (b:=s) (o:=0) m0 rfl]
     refine step_ret (gz (n:=9) (a:=a) S.ok (S.row m2) (Q.mo S.fr (by omega)) (by omega) (by omega)) ?_
     rintro v h ⟨f,H,a1,rfl,bp,bn,R⟩
     replace S:=S.call1 (i:=2) rfl f (o':=.row _ _) R
     simp only [LC]at S
     simp only [BS,LB,Nat.reduceLT,Nat.reduceEqDiff]
     refine qz (fun g h=> ∃(X Y:List Int),X.length=i/\Y.length=i/\(∀x∈X,-2147483648<=x/\x<=2147483647)/\(∀x∈Y,-2147483648<=x/\x<=2147483647)/\
      St (· =B) J h [(s,.row [.int .i64 i,D,G,.slice none 0 0] 1),(M,.row [.int .i64 0,.slice none 0 0,.slice none 0 0,.slice none 0 0] 1),(B,.row [W,.int .i64 a1] 1)] [(D,1,ints X),(G,1,ints Y),(.slice none 0 0,3,[])]/\
      g 0=ptrTo B/\g 2=ptrTo M/\g 3=ptrTo s) ?_ ?_ ?_
     . intro _
       obtain⟨bX,ix,bc⟩:=S.gset (E:=zB) (t:=2) (j:=0) (i:=0) (kd:=.i64) rfl (by rw [bD];omega) Tryz.t2.2.2.1
       have bt:ig (some 1) D (.int .i64 0)=_:=ix
       simp only [BS,LB,Nat.reduceLT,Nat.reduceEqDiff,F5,d,bt,S.ld (b:=s) (o:=1) m0 rfl]
       refine ax (bc _ bZ) ?_
       clear S bc;intro h S
       simp only [LC]at S
       obtain⟨bY,iy,be⟩:=S.gset (E:=zB) (t:=2) (j:=1) (i:=i-1) (kd:=.i64) rfl (by rw [bD];omega) Tryz.t2.2.2.1
       have w1:am .i64 ((i:Int)-1)=((i-1:Nat):Int):=by rw [wrap64]<;>omega
       simp only [BS,LB,Nat.reduceLT,Nat.reduceEqDiff,F5,d,w1,iy,S.ld (b:=s) (o:=0) m0 rfl,S.ld (b:=s) (o:=2) m0 rfl]
       refine ax (be _ bZ) ?_
       clear S be;intro h S
       simp only [LC]at S
       simp only [BS]
       have ai: ∀(l:List Int) (j:Nat) (z:Int),(ints l).set j (.int .i64 z)=ints (l.set j z):=by
        intro l
        induction l with
        |nil=>intro j z;rfl
        | cons x l U=>
          intro j z
          cases j with
          |zero=>rfl
          |succ j=>show _::_=_::_;exact congrArg _ (U j z)
       rw [ai,ai]at S
       refine dR ⟨_,_,by simp [lX],by simp [lY],fun x F=>?_,fun x F=>?_,S,by simp [aa,r,ab],by simp [aa,y,ab],by simp [aa,d,ab]⟩
       . rcases kA F with rfl|⟨j,_,F⟩
         . omega
         . exact cX x (Xs F)
       . rcases kA F with rfl|⟨j,_,F⟩
         . omega
         . exact cY x (Xs F)
     . intro _
       simp only [BS]
       exact dR ⟨X,Y,lX,lY,cX,cY,S,by simp [aa,r,ab],by simp [aa,y,ab],by simp [aa,d,ab]⟩
     . clear S r y d r4 lX lY cX cY X Y f R
       rintro g h ⟨X,Y,lX,lY,cX,cY,S,r,y,d⟩
       have w3:am .i64 (3*(i:Int))=((3*i:Nat):Int):=by rw [wrap64]<;>omega
       have w4:am .i64 (((3*i:Nat):Int)+1)=((3*i+1:Nat):Int):=by rw [wrap64]<;>omega
       simp only [BS,LB,Nat.reduceLT,Nat.reduceEqDiff,F5,r,d,w3,w4,S.ld (b:=s) (o:=0) m0 rfl]
       refine step_ret (gz (n:=3*i+1) (a:=a1) S.ok (S.row m2) (Q.mo S.fr (by omega)) (by omega) (by omega)) ?_
       rintro v h ⟨f,C,a2,rfl,bu,bq,R⟩
       replace S:=S.call1 (i:=2) rfl f (o':=.row _ _) R
       simp only [LC]at S
       simp only [BS,LB,Nat.reduceLT,Nat.reduceEqDiff,r]
       refine step_ret (gz (n:=3) (a:=a2) S.ok (S.row m2) (Q.mo S.fr (by omega)) (by omega) (by omega)) ?_
       rintro v h ⟨f,rr,a3,rfl,b8,cb,R⟩
       replace S:=S.call1 (i:=2) rfl f (o':=.row _ _) R
       simp only [LC]at S
       simp only [BS,LB,Nat.reduceLT,Nat.reduceEqDiff]
       generalize decide ((0:Int)<(rr:Int))=ring
       refine qB (fun g h=> ∃(a:Nat) (u:Value) (A:List Arc),a<=a3+2*i/\A.length<=i/\(∀x∈A,x.s<i/\x.t<i/\x.w<=2147483647)/\
        St (· =B) J h [(s,.row [.int .i64 i,D,G,u] 1),(M,.row [.int .i64 0,.slice none 0 0,.slice none 0 0,.slice none 0 0] 1),(B,.row [W,.int .i64 a] 1)] [(D,1,ints X),(G,1,ints Y),(u,3,A.flatMap cw)]/\
        g 0=ptrTo B/\g 2=ptrTo M/\g 3=ptrTo s/\g 5=.int .i64 C)
        (fun(j:Nat) g h=>j<=i/\ ∃(a:Nat) (u:Value) (A:List Arc),a<=a3+2*j/\A.length<=j/\(∀x∈A,x.s<i/\x.t<i/\x.w<=2147483647)/\
        St (· =B) J h [(s,.row [.int .i64 i,D,G,u] 1),(M,.row [.int .i64 0,.slice none 0 0,.slice none 0 0,.slice none 0 0] 1),(B,.row [W,.int .i64 a] 1)] [(D,1,ints X),(G,1,ints Y),(u,3,A.flatMap cw)]/\
        g 0=ptrTo B/\g 2=ptrTo M/\g 3=ptrTo s/\g 5=.int .i64 C/\g 6=.bool ring/\g 7=.int .i64 j) (fun j=>i-j) ?_ ?_ 0 ⟨by omega,a3,_,[],by omega,by simp,by simp,S,by simp [aa,r,ab],by simp [aa,y,ab],by simp [aa,d,ab],by simp [aa],by simp [aa],by simp [aa]⟩
       . clear S r y d f R U
         intro j U g h ⟨hj,a,u,A,ha,lA,P,S,r,y,d,H,r6,r7⟩
         have L:(A.flatMap cw).length=A.length*3:=aW dO A
         by_cases hlt:j<i/\ring=true
         . obtain⟨hlt,I⟩:=hlt
           subst I
           have w1:am .i64 ((j:Int)+1)=((j+1:Nat):Int):=by rw [wrap64]<;>omega
           have ci:(i:Int)≠0:=by omega
           have tm:((j+1:Nat):Int).tmod (i:Int)=(((j+1)%i:Nat):Int):=by rw [Xy (by omega)];exact(Int.natCast_emod _ _).symm
           simp only [BS,LB,Nat.reduceLT,Nat.reduceEqDiff,F5,d,r6,r7,aq,hlt,S.ld (b:=s) (o:=0) m0 rfl]
           refine ar (ay rfl) (q:=2048) (ps:=[(6,9),(1,9)]) (by kernel_rfl) ?_
           simp only [BS,LB,cls,Nat.reduceLT,Nat.reduceEqDiff,Nat.reduceAdd,Nat.reducePow,Nat.reduceDiv,Nat.reduceMod,Nat.reduceLeDiff,F5,r,d,r7,w1,eP ci,tm,S.ld (b:=s) (o:=0) m0 rfl,S.ld (b:=s) (o:=3) m0 rfl]
           refine c6 (wJ (a:=a) S.ok (S.row m2) (Q.mo S.fr (by omega)) (by omega)) ?_
           rintro v h ⟨f,V,a4,rfl,ad,bv,R⟩
           have hl:=S.leaves (c:=s) m0 f (by omega)
           replace S:=S.call1 (i:=2) rfl f (o':=.row _ _) R
           simp only [LC]at S
           simp only [BS,LB,cls,Nat.reduceLT,Nat.reduceEqDiff,Nat.reduceAdd,Nat.reducePow,Nat.reduceDiv,Nat.reduceMod,Nat.reduceLeDiff,F5]
           refine fe (bj (by exact Tryz.t35.1) (by exact Tryz.e46E) (by decide) (by rfl)) S ?_;clear S;intro h Z S K af;simp only [LC,aR,bo,ah,Nat.reduceMul,Nat.reduceAdd,Xg,Xe,Xf,Xi]at S
           simp only [BS,LB,cls,Nat.reduceLT,Nat.reduceEqDiff,Nat.reduceAdd,Nat.reducePow,Nat.reduceDiv,Nat.reduceMod,Nat.reduceLeDiff]
           refine kJ (S.grow (j:=2) (m:=1) (new:=cw ⟨j,(j+1)%i,V⟩) rfl Tryz.t35.1 Tryz.e46E (by decide) Tryz.t35.2.2.2.2.2 (by simp only [aI];rw [S.lds (b:=Z) (o:=0) (n:=1*3) m0 (lbt rfl)];rfl) rfl (by decide) rfl (by rw [L,dO];omega)) ?_
           clear S
           rintro h T S
           simp only [LC]at S
           replace S:=S.drop1
           have fA:Fl T:=(S.gown _ m2).1.fl
           simp only [BS,LB,cls,Nat.reduceLT,Nat.reduceEqDiff,Nat.reduceAdd,Nat.reducePow,Nat.reduceDiv,Nat.reduceMod,Nat.reduceLeDiff,F5,d]
           refine ep (av S (i:=0) rfl ?_ ?_ ?_ ono) ?_
           . exact(by simp only [F5])
           . exact(by assumption)
           . exact Xc (lbt rfl)
           clear S;rintro h ⟨S,O⟩;clear O;simp only [LC,ah,lay,Xa,Xb,Nat.reduceAdd]at S
           simp only [BS,LB,Nat.reduceLT,Nat.reduceEqDiff,Nat.reduceAdd,r7]
           refine⟨by simp only [bQ,bW,bE,cd,bM,ne_eq,not_false_eq_true,ce,cB,bO,bN,cy,dr,bK,Nat.reduceLT,Nat.reduceEqDiff,reduceIte,Xr,d,ab,aQ hl],?_⟩
           simp only [w1]
           have bf:(j+1)%i<i:=Nat.mod_lt _ (by omega)
           exact U (j+1) _ _ (by omega) ⟨by omega,a4,T,A++[⟨j,(j+1)%i,V⟩],by omega,by simp;omega,
            fun x F=>(List.mem_append.1 F).elim (P x) (fun h=>by simp at h;subst h;exact⟨hlt,bf,ad⟩),by rw [Xm];simpa using S,by simp [aa,r,ab],by simp [aa,y,ab],by simp [aa,d,ab],by simp [aa,H],by simp [aa,r6],by simp [aa]⟩
         . by_cases ak:j<i
           . have I:ring=false:=by cases ring with
              |false=>rfl
              |true=>exact absurd ⟨ak,rfl⟩ hlt
             subst I
             simp only [BS,LB,Nat.reduceLT,Nat.reduceEqDiff,F5,d,r6,r7,aq,ak,S.ld (b:=s) (o:=0) m0 rfl]
             exact dR ⟨a,u,A,by omega,by omega,P,S,by simp [aa,r,ab],by simp [aa,y,ab],by simp [aa,d,ab],by simp [aa,H]⟩
           . simp only [BS,LB,Nat.reduceLT,Nat.reduceEqDiff,F5,d,r7,aq,ak,S.ld (b:=s) (o:=0) m0 rfl]
             exact dR ⟨a,u,A,by omega,by omega,P,S,by simp [aa,r,ab],by simp [aa,y,ab],by simp [aa,d,ab],by simp [aa,H]⟩
       . clear S r y d f R U
         rintro g h ⟨a,u,A,ha,lA,P,S,r,y,d,H⟩
         simp only [BS]
         refine qB (fun g h=> ∃(a:Nat) (u:Value) (A:List Arc),A.length<=100/\(∀x∈A,x.s<i/\x.t<i/\x.w<=2147483647)/\
          St (· =B) J h [(s,.row [.int .i64 i,D,G,u] 1),(M,.row [.int .i64 0,.slice none 0 0,.slice none 0 0,.slice none 0 0] 1),(B,.row [W,.int .i64 a] 1)] [(D,1,ints X),(G,1,ints Y),(u,3,A.flatMap cw)]/\
          g 0=ptrTo B/\g 2=ptrTo M/\g 3=ptrTo s)
          (fun(k:Nat) g h=>k<=C/\ ∃(a:Nat) (u:Value) (A:List Arc),a<=a3+2*i+6*k/\A.length<=i+2*k/\(∀x∈A,x.s<i/\x.t<i/\x.w<=2147483647)/\
          St (· =B) J h [(s,.row [.int .i64 i,D,G,u] 1),(M,.row [.int .i64 0,.slice none 0 0,.slice none 0 0,.slice none 0 0] 1),(B,.row [W,.int .i64 a] 1)] [(D,1,ints X),(G,1,ints Y),(u,3,A.flatMap cw)]/\
          g 0=ptrTo B/\g 2=ptrTo M/\g 3=ptrTo s/\g 5=.int .i64 C/\g 8=.int .i64 k) (fun k=>C-k) ?_ ?_ 0 ⟨by omega,a,u,A,by omega,by omega,P,S,by simp [aa,r,ab],by simp [aa,y,ab],by simp [aa,d,ab],by simp [aa,H],by simp [aa]⟩
         . clear S r y d H ha lA P a u A
           intro k U g h ⟨hk,a,u,A,ha,lA,P,S,r,y,d,H,r8⟩
           have L:(A.flatMap cw).length=A.length*3:=aW dO A
           by_cases hlt:k<C
           . simp only [BS,LB,Nat.reduceLT,Nat.reduceEqDiff,H,r8,aq,hlt]
             refine ar (wi (ord:=[11,0,1,2,3,4,5,6,7,8,9,10,12]) rfl rfl (by simp only [eo,reix,eW,List.getElem?_cons_zero,List.getElem?_cons_succ,List.map_toArray,List.map_cons,List.map_nil,Nat.reduceBEq,cond_true,cond_false];exact rfl)) (q:=1) (ps:=[(0,10),(0,8),(4,7),(0,4)]) (by kernel_rfl) ?_
             simp only [BS,LB,cls,Nat.reducePow,Nat.reduceDiv,Nat.reduceMod,Nat.reduceLeDiff,F5]
             refine fe aw S ?_;clear S;intro h b9 S b0 bh
             simp only [BS,LB,cls,Nat.reduceLT,Nat.reduceEqDiff,Nat.reduceAdd,Nat.reducePow,Nat.reduceDiv,Nat.reduceMod,Nat.reduceLeDiff,F5,r,d,S.ld (b:=s) (o:=0) m1 rfl]
             refine c6 (gz (n:=i) (a:=a) S.ok (S.row m3) (Q.mo S.fr (by omega)) (by omega) (by omega)) ?_
             rintro v h ⟨f,s1,a4,rfl,bi,bv,R⟩
             have bw:=S.leaves (c:=b9) m0 f (by omega)
             have bx:=S.leaves (c:=s) m1 f (by omega)
             replace S:=S.call1 (i:=3) rfl f (o':=.row _ _) R
             simp only [LC]at S
             simp only [BS,LB,cls,Nat.reduceLT,Nat.reduceEqDiff,Nat.reduceAdd,Nat.reducePow,Nat.reduceDiv,Nat.reduceMod,Nat.reduceLeDiff,F5,r,d,S.ld (b:=s) (o:=0) m1 rfl]
             refine c6 (gz (n:=i) (a:=a4) S.ok (S.row m3) (Q.mo S.fr (by omega)) (by omega) (by omega)) ?_
             rintro v h ⟨f,s2,a5,rfl,bk,cc,R⟩
             have bA:=S.leaves (c:=b9) m0 f (by omega)
             have bB:=S.leaves (c:=s) m1 f (by omega)
             replace S:=S.call1 (i:=3) rfl f (o':=.row _ _) R
             simp only [LC]at S
             simp only [BS,LB,cls,Nat.reduceLT,Nat.reduceEqDiff,Nat.reduceAdd,Nat.reducePow,Nat.reduceDiv,Nat.reduceMod,Nat.reduceLeDiff,r]
             refine c6 (wJ (a:=a5) S.ok (S.row m3) (Q.mo S.fr (by omega)) (by omega)) ?_
             rintro v h ⟨f,V,a6,rfl,ad,cf,R⟩
             have bL:=S.leaves (c:=b9) m0 f (by omega)
             replace S:=S.call1 (i:=3) rfl f (o':=.row _ _) R
             simp only [LC]at S
             simp only [BS,LB,cls,Nat.reduceLT,Nat.reduceEqDiff,Nat.reduceAdd,Nat.reducePow,Nat.reduceDiv,Nat.reduceMod,Nat.reduceLeDiff,F5]
             refine ep (S.store (i:=0) rfl ?_ ?_ rfl rfl ?_ ono) ?_
             . exact(by exact Tryz.t46.2.1)
             . exact(by intro x e;cases e)
             . exact lbt rfl
             clear S;rintro h ⟨S,O⟩;clear O;simp only [LC,ah,lay,Xa,Xb,Nat.reduceAdd]at S
             simp only [BS,LB,Nat.reduceLT,Nat.reduceEqDiff,Nat.reduceAdd,F5,d]
             refine⟨by simp only [bQ,bW,bE,cd,bM,ne_eq,not_false_eq_true,ce,cB,bO,bN,cy,dr,bK,Nat.reduceLT,Nat.reduceEqDiff,reduceIte,Xr,d,ab,<-bh,aQ bw,aQ bA,aQ bB,aQ bL,bJ bx],?_⟩
             simp only [BS,LB,Nat.reduceLT,Nat.reduceEqDiff,F5,S.ld (b:=s) (o:=3) m1 rfl,S.lds (b:=b9) (o:=0) (n:=3) m0 (lbt rfl)]
             refine ag (bj (by exact Tryz.t35.1) (by exact Tryz.e46E) (by decide) (by rfl)) S ?_;clear S;intro h Z S K;simp only [LC,aR,bo,ah,Nat.reduceMul,Nat.reduceAdd,Xg,Xe,Xf,Xi]at S
             simp only [BS,LB,Nat.reduceLT,Nat.reduceEqDiff]
             refine dX (S.grow (j:=2) (m:=1) (new:=cw ⟨s1,s2,V⟩) rfl Tryz.t35.1 Tryz.e46E (by decide) Tryz.t35.2.2.2.2.2 (by simp only [aI];rw [S.lds (b:=Z) (o:=0) (n:=1*3) m0 (lbt rfl)];rfl) rfl (by decide) rfl (by rw [L,dO];omega)) ?_
             clear S
             rintro h T S
             simp only [LC]at S
             replace S:=S.drop1
             have fA:Fl T:=(S.gown _ m2).1.fl
             simp only [BS,LB,Nat.reduceLT,Nat.reduceEqDiff,F5,d]
             refine ax (av S (i:=1) rfl ?_ ?_ ?_ ono) ?_
             . exact(by simp only [F5])
             . exact(by assumption)
             . exact Xc (lbt rfl)
             clear S;rintro h ⟨S,O⟩;clear O;simp only [LC,ah,lay,Xa,Xb,Nat.reduceAdd]at S
             simp only [BS,LB,Nat.reduceLT,Nat.reduceEqDiff,r]
             refine step_ret (gz (n:=4) (a:=a6) S.ok (S.row m3) (Q.mo S.fr (by omega)) (by omega) (by omega)) ?_
             rintro v h ⟨f,r9,a7,rfl,ch,cl,R⟩
             replace S:=S.call1 (i:=3) rfl f (o':=.row _ _) R
             simp only [LC]at S
             have w8:am .i64 ((k:Int)+1)=((k+1:Nat):Int):=by rw [wrap64]<;>omega
             have aL:(A.flatMap cw++cw ⟨s1,s2,V⟩).length=A.length*3+3:=by rw [Xn,L,dO]
             have bl: ∀x∈A++[(⟨s1,s2,V⟩:Arc)],x.s<i/\x.t<i/\x.w<=2147483647:=fun x F=>(List.mem_append.1 F).elim (P x) (fun h=>by simp at h;subst h;exact⟨bi,bk,ad⟩)
             by_cases hz:(r9:Int)=0
             . simp only [BS,LB,Nat.reduceLT,Nat.reduceEqDiff,Nat.reduceAdd,F5,d,hz,S.ld (b:=s) (o:=3) m1 rfl,S.ld (b:=b9) (o:=0) m0 rfl,S.ld (b:=b9) (o:=1) m0 rfl,S.ld (b:=b9) (o:=2) m0 rfl]
               refine ag (bj (by exact Tryz.t35.1) (by exact Tryz.e46E) (by decide) (by rfl)) S ?_;clear S;intro h Z S K;simp only [LC,aR,bo,ah,Nat.reduceMul,Nat.reduceAdd,Xg,Xe,Xf,Xi]at S
               simp only [BS,LB,Nat.reduceLT,Nat.reduceEqDiff]
               refine dX (S.grow (j:=2) (m:=1) (new:=cw ⟨s2,s1,V⟩) rfl Tryz.t35.1 Tryz.e46E (by decide) Tryz.t35.2.2.2.2.2 (by simp only [aI];rw [S.lds (b:=Z) (o:=0) (n:=1*3) m0 (lbt rfl)];rfl) rfl (by decide) rfl (by rw [aL,dO];omega)) ?_
               clear S
               rintro h bm S
               simp only [LC]at S
               replace S:=S.drop1
               have fA:Fl bm:=(S.gown _ m2).1.fl
               simp only [BS,LB,Nat.reduceLT,Nat.reduceEqDiff,F5,d]
               refine ax (av S (i:=1) rfl ?_ ?_ ?_ ono) ?_
               . exact(by simp only [F5])
               . exact(by assumption)
               . exact Xc (lbt rfl)
               clear S;rintro h ⟨S,O⟩;clear O;simp only [LC,ah,lay,Xa,Xb,Nat.reduceAdd]at S
               simp only [BS,LB,Nat.reduceLT,Nat.reduceEqDiff,r8,w8]
               replace S:=S.drop1
               exact U (k+1) _ _ (by omega) ⟨by omega,a7,bm,A++[⟨s1,s2,V⟩]++[⟨s2,s1,V⟩],by omega,by simp;omega,
                fun x F=>(List.mem_append.1 F).elim (bl x) (fun h=>by simp at h;subst h;exact⟨bk,bi,ad⟩),by rw [Xm,Xm];simpa using S,by simp [aa,r,ab],by simp [aa,y,ab],by simp [aa,d,ab],by simp [aa,H],by simp [aa]⟩
             . simp only [BS,LB,Nat.reduceLT,Nat.reduceEqDiff,r8,hz,w8]
               replace S:=S.drop1
               exact U (k+1) _ _ (by omega) ⟨by omega,a7,T,A++[⟨s1,s2,V⟩],by omega,by simp;omega,
                bl,by rw [Xm];simpa using S,by simp [aa,r,ab],by simp [aa,y,ab],by simp [aa,d,ab],by simp [aa,H],by simp [aa]⟩
           . simp only [BS,LB,Nat.reduceLT,Nat.reduceEqDiff,H,r8,aq,hlt]
             exact dR ⟨a,u,A,by omega,P,S,by simp [aa,r,ab],by simp [aa,y,ab],by simp [aa,d,ab]⟩
         . clear S r y d H ha lA P a u A
           rintro g h ⟨a,u,A,lA,P,S,r,y,d⟩
           simp only [BS,LB,Nat.reduceLT,Nat.reduceEqDiff,F5,y,d,S.lds (b:=s) (o:=0) (n:=4) m0 (lbt rfl)]
           have fX:Fl D:=(S.gown _ m0).1.fl
           have fY:Fl G:=(S.gown _ m1).1.fl
           have fA:Fl u:=(S.gown _ m2).1.fl
           refine ax (S.store (i:=1) rfl Tryz.t37.2.1 (by intro x e;cases e) rfl (by simp only [ah,Xa,Xb,List.all_cons,List.all_nil,fX.2.1,fY.2.1,fA.2.1,Xr];rfl) (lbt rfl) ono) ?_
           clear S;rintro h ⟨S,_⟩
           simp only [LC,ah,lay,Xa,Xb,Nat.reduceAdd]at S
           simp only [BS,ae]
           refine⟨_,sb (by decide) (by simp only [bK,y,ab,Nat.reduceEqDiff,reduceIte];exact fD Tryz.t37.1 Tryz.t37.2.1 (S.lds (b:=M) (o:=0) (n:=4) m1 (lbt rfl))),?_⟩
           have a8: ∀p∈[(D,1,ints X),(G,1,ints Y),(u,3,A.flatMap cw)],∀c,ao p.1 c->J.n<=c:=by
            intro p hp c hc
            obtain⟨h1,h2⟩:=S.gblk hp hc
            rcases h1 with h1|h1
            . exact h1
            . exact absurd (by simp [h1]) h2
           refine⟨S.fr,⟨i,X,Y,A⟩,D,G,u,rfl,⟨show 1<=i by omega,show i<=12 by omega,lX,lY,cX,cY,lA,P⟩,show i=_ by omega,⟨(S.gown _ m0).1.sl rfl (fun _=>rfl) (by decide),(S.gown _ m1).1.sl rfl (fun _=>rfl) (by decide),(S.gown _ m2).1.sl rfl (fun _=>rfl) (by decide)⟩,?_⟩
           rintro c (hc|hc|hc)
           . exact a8 _ m0 c hc
           . exact a8 _ m1 c hc
           . exact a8 _ m2 c hc
 . exact⟨by omega,a0,_,_,[],[],by omega,rfl,rfl,by simp,by simp,S,by simp [aa,cD,ab],by simp [aa,ab],by simp [aa,ab],by simp [aa]⟩
theorem raw_ok{e:Hp}(n:e.t.Sized e.n){k:Nat}{m:Value}{xs:List Int}(o:Row e k [m,.int .i64 ((0:Nat):Int)] 1)(p:nA e k m xs 0):
 Ret zB 29 [ptrTo k] e fun v l=>Mo (· =k) e l/\ ∃g h i j,v=fW g h i j/\Good g/\cJ l h i j g/\ ∀c,(ao h c\/ao i c\/ao j c)->e.n<=c:=
 (raw0_ok n o p).mono fun v l ⟨f,g,h,i,j,a,b,_,c,d⟩=>⟨f,g,h,i,j,a,b,c,d⟩
def Tryz.Fc:=aj t1<|aj t2<|aj t3<|aj t23<|aj t35<|aj Z0<|Z3
theorem aK{h a:Hp}{b:Nat}(g:Gr h a)(c:b<h.n):leaves h a b=true:=mC (g.get b c)
theorem own_ok{p:Hp}(T:p.t.Sized p.n){w:Gra}(k:eE w){r s l:Value}(H:cJ p r s l w):
 Ret zB 33 [fW w r s l] p fun v F=>Gr p F/\ ∃r s l,v=fW w r s l/\cJ F r s l w/\(∀c,ao r c\/ao s c\/ao l c->p.n<=c)/\WrK F 3 cw l w.arcs/\ ∀c,ao l c-> ¬ao r c/\ ¬ao s c:=by
 have S:=Si T
 have lX:=k.lX
 have lY:=k.lY
 have n2:=k.n2
 have O:=k.many
 refine ac (n:=16) (rs:=[.cell 2 37]) rfl Tryz.e33 rfl rfl rfl (lbt rfl) ?_
 simp only [BS,Nat.reduceLT,fW]
 refine ag (bR (by intro x e;cases e)) S ?_;clear S;intro h b S U;simp only [ah]at S
 simp only [BS,Fc]
 refine ag aw S ?_;clear S;intro h t S P
 simp only [BS]
 refine ar (ay rfl) (q:=0) (ps:=[(5,7),(2,7),(2,4)]) (by kernel_rfl) ?_
 simp only [BS,LB,cls,Nat.reduceLT,Nat.reduceEqDiff,Nat.reduceAdd,Nat.reducePow,Nat.reduceDiv,Nat.reduceMod,Nat.reduceLeDiff,Fc,S.ld (b:=b) (o:=1) m1 rfl]
 refine c6 (qL S.ok (H.X.gr S.gr) (by omega)) ?_
 have V:=S.fr.n
 rintro A h ⟨g,f,I⟩
 have Q:=aK g ((S.row (b:=b) m1).lt S.ok)
 have J: ∀c,ao A c-> ¬c=b:=fun c d e=>by have:=I c d;have:=(S.row (b:=b) m1).lt S.ok;omega
 have K: ∀c,ao A c-> ¬c=t:=fun c d e=>by have:=I c d;have:=(S.row (b:=t) m0).lt S.ok;omega
 replace S:=S.call g
 simp only [BS,LB,cls,Nat.reduceLT,Nat.reduceEqDiff,Nat.reduceAdd,Nat.reducePow,Nat.reduceDiv,Nat.reduceMod,Nat.reduceLeDiff,Fc,S.ld (b:=b) (o:=2) m1 rfl]
 refine c6 (qL S.ok (H.Y.gr S.gr) (by omega)) ?_
 have W:=S.fr.n
 rintro B h ⟨g,j,L⟩
 have R:=aK g ((S.row (b:=b) m1).lt S.ok)
 have M: ∀c,ao B c-> ¬c=b:=fun c d e=>by have:=L c d;have:=(S.row (b:=b) m1).lt S.ok;omega
 have N: ∀c,ao B c-> ¬c=t:=fun c d e=>by have:=L c d;have:=(S.row (b:=t) m0).lt S.ok;omega
 replace S:=S.call g
 replace f:=f.gr g
 simp only [BS,LB,cls,Nat.reduceLT,Nat.reduceEqDiff,Nat.reduceAdd,Nat.reducePow,Nat.reduceDiv,Nat.reduceMod,Nat.reduceLeDiff,Fc,S.ld (b:=b) (o:=3) m1 rfl]
 refine c6 (z9 S.ok (H.A.gr S.gr) (by omega)) ?_
 have X:=S.fr.n
 rintro C h ⟨g,m,D,u⟩
 have Y: ∀c,ao C c-> ¬ao A c/\ ¬ao B c:=fun c d=>⟨fun h=>by have:=D c d;have:=f.lt S.ok h;omega,fun h=>by have:=D c d;have:=j.lt S.ok h;omega⟩
 have e3:=aK g ((S.row (b:=b) m1).lt S.ok)
 have y: ∀c,ao C c-> ¬c=b:=fun c d e=>by have:=D c d;have:=(S.row (b:=b) m1).lt S.ok;omega
 have E: ∀c,ao C c-> ¬c=t:=fun c d e=>by have:=D c d;have:=(S.row (b:=t) m0).lt S.ok;omega
 replace S:=S.call g
 replace f:=f.gr g
 replace j:=j.gr g
 have z: ∀c,ao A c\/ao B c\/ao C c->p.n<=c:=fun c d=>by
  rcases d with h|h|h
  . exact Xl V (I c h)
  . exact Xl W (L c h)
  . exact Xl X (D c h)
 have Z:=f.fl
 have f2:=j.fl
 have f3:=m.fl
 simp only [BS,LB,cls,Nat.reduceLT,Nat.reduceEqDiff,Nat.reduceAdd,Nat.reducePow,Nat.reduceDiv,Nat.reduceMod,Nat.reduceLeDiff,Fc]
 refine ep (av S (i:=1) rfl ?_ ?_ ?_ ono) ?_
 . exact(by simp only [Fc])
 . exact(by assumption)
 . exact Xc (lbt rfl)
 clear S;rintro h ⟨S,a⟩;replace f:=f.mo a J;replace j:=j.mo a M;replace m:=m.mo a y;replace u:=u.mo a y;clear a;simp only [LC,ah,lay,Xa,Xb,Nat.reduceAdd]at S
 simp only [BS,LB,cls,Nat.reduceLT,Nat.reduceEqDiff,Nat.reduceAdd,Nat.reducePow,Nat.reduceDiv,Nat.reduceMod,Nat.reduceLeDiff,Fc]
 refine ep (av S (i:=1) rfl ?_ ?_ ?_ ono) ?_
 . exact(by simp only [Fc])
 . exact(by assumption)
 . exact Xc (lbt rfl)
 clear S;rintro h ⟨S,a⟩;replace f:=f.mo a J;replace j:=j.mo a M;replace m:=m.mo a y;replace u:=u.mo a y;clear a;simp only [LC,ah,lay,Xa,Xb,Nat.reduceAdd]at S
 simp only [BS,LB,cls,Nat.reduceLT,Nat.reduceEqDiff,Nat.reduceAdd,Nat.reducePow,Nat.reduceDiv,Nat.reduceMod,Nat.reduceLeDiff,Fc]
 refine ep (av S (i:=1) rfl ?_ ?_ ?_ ono) ?_
 . exact(by simp only [Fc])
 . exact(by assumption)
 . exact Xc (lbt rfl)
 clear S;rintro h ⟨S,a⟩;replace f:=f.mo a J;replace j:=j.mo a M;replace m:=m.mo a y;replace u:=u.mo a y;clear a;simp only [LC,ah,lay,Xa,Xb,Nat.reduceAdd]at S
 simp only [BS,LB,Nat.reduceLT,Nat.reduceEqDiff,Nat.reduceAdd,Fc]
 refine⟨by simp only [bQ,bW,bE,cd,bM,ne_eq,not_false_eq_true,ce,cB,bO,bN,cy,dr,bK,Nat.reduceLT,Nat.reduceEqDiff,reduceIte,Xr,aB,ab,aQ Q,aQ R,aQ e3,bJ Q,bJ R,bJ e3],?_⟩
 simp only [BS,LB,Nat.reduceLT,Nat.reduceEqDiff,S.lds (b:=b) (o:=0) (n:=4) m1 (lbt rfl)]
 refine ax (S.store (i:=0) rfl Tryz.t37.2.1 (by intro x e;cases e) rfl (by simp only [ah,Xa,Xb,List.all_cons,List.all_nil,Z.2.1,f2.2.1,f3.2.1,Xr];rfl) (lbt rfl) ono) ?_
 clear S
 rintro F ⟨S,G⟩
 simp only [LC,ah,lay,Xa,Xb,Nat.reduceAdd]at S
 simp only [BS,ae]
 refine⟨_,sb (by decide) (by simp only [bK,ab,Nat.reduceEqDiff,reduceIte];exact fD Tryz.t37.1 Tryz.t37.2.1 (S.lds (b:=t) (o:=0) (n:=4) m0 (lbt rfl))),?_⟩
 exact⟨S.gr,A,B,C,rfl,⟨f.mo G K,j.mo G N,m.mo G E⟩,z,u.mo G E,Y⟩
end Go.Ab
end
section
namespace Go.Ab
section
variable(A:List Arc)(f:Arc->Nat)
def outs(j v:Nat):List Nat:=(zM j).filter fun i=>decide (f (A.getD i default)=v)
def start:Nat->Nat
 |0=>0
 |v+1=>start v+(outs A f A.length v).length
theorem gR(j v:Nat):outs A f (j+1) v=outs A f j v++(if f (A.getD j default)=v then [j]else []):=by
 simp_all[outs,XH,List.filter_append,default,List.filter_cons,List.filter_nil,decide_true,if_true]
theorem outs_pre{j k:Nat}(h:j<=k)(v:Nat): ∃l,outs A f k v=outs A f j v++l:=by
 induction k with
 |zero=>simp_all
 | succ k a=>
   by_cases b:j=k+1
   . simp_all
   grind[gR,List.append_assoc]
theorem vz{j k:Nat}(h:j<=k)(v:Nat):(outs A f j v).length<=(outs A f k v).length:=by
 obtain⟨l,a⟩:=outs_pre A f h v
 grind
theorem start_eq(v:Nat):start A f v=((zM A.length).filter fun i=>decide (f (A.getD i default)<v)).length:=by
 have a: ∀(l:List Nat) (v:Nat),(l.filter fun i=>decide (f (A.getD i default)<v+1)).length=(l.filter fun i=>decide (f (A.getD i default)<v)).length+(l.filter fun i=>decide (f (A.getD i default)=v)).length:=by
  intro l v
  induction l with
  |nil=>rfl
  | cons x l b=>
    grind
 induction v with
 |zero=>rw [start];symm;simp_all
 |succ v b=>rw [start,b,a];rfl
theorem pP(v:Nat):start A f v+(outs A f A.length v).length<=A.length:=by
 have:=start_eq A f (v+1)
 grind[start,Xl,XL]
theorem uK{u v:Nat}(h:u<v):start A f u+(outs A f A.length u).length<=start A f v:=by
 induction v with
 |zero=>omega
 | succ v a=>
   rw [start]
   grind
theorem zX{u v r s:Nat}(b:r<(outs A f A.length u).length)(c:s<(outs A f A.length v).length)(h:start A f u+r=start A f v+s):u=v/\r=s:=by
 rcases Nat.lt_trichotomy u v with a|a|a
 . have:=uK A f a;omega
 . grind
 . have:=uK A f a;omega
end
def d7(x:Nat):List Value:=[.int .i64 x]
theorem fU(x:Nat):(d7 x).length=1:=rfl
def fq(h:Hp)(m:Nat)(v:Value)(N:Nat)(R:Nat->List Nat):Prop:=
 ∃a b,v=.slice (some ⟨a,0,none⟩) N N/\m<=a/\Row h a b 1/\b.length=N/\ ∀i,i<N-> ∃w,b[i]? =some w/\au h 1 d7 w (R i)/\ ∀c,ao w c->m<=c
theorem fq.mo{M:Nat->Prop}{h d:Hp}{v:Value}{m N:Nat}{R:Nat->List Nat}(r:fq h m v N R)(g:Mo M h d)(s: ∀b,M b->b<m):fq d m v N R:=by
 obtain⟨f,e,j,t,k,l,n⟩:=r
 refine⟨f,e,j,by omega,g.has (o:=.row e 1) k (fun h=>by grind),l,fun i p=>?_⟩
 obtain⟨w,a,b,c⟩:=n i p
 exact⟨w,a,b.mo g fun x q u=>by grind,fun x q=>by grind⟩
theorem fq.gr{h a:Hp}{v:Value}{m N:Nat}{R:Nat->List Nat}(g:Gr h a)(r:fq h m v N R):fq a m v N R:=
 r.mo (M:=NoM) g.fr (fun _ h=>h.elim)
theorem fq.low{h:Hp}{v:Value}{m a N:Nat}{R:Nat->List Nat}(r:fq h m v N R)(g:a<=m):fq h a v N R:=by
 obtain⟨b,c,d,j,e,f,k⟩:=r
 exact⟨b,c,d,by omega,e,f,fun i l=>by
  grind⟩
structure bF(h:Hp)(m:Nat)(p:Value)(γ:Gra):Prop where
 ex: ∃b vx vy va vo vi,p=ptrTo b/\Row h b [.int .i64 γ.nodes,vx,vy,va,vo,vi] 1/\cJ h vx vy va γ/\fq h m vo γ.nodes (outs γ.arcs Arc.s γ.arcs.length)/\fq h m vi γ.nodes (outs γ.arcs Arc.t γ.arcs.length)/\m<=b/\ ∀c,ao vx c\/ao vy c\/ao va c->m<=c
theorem cJ.mo{M:Nat->Prop}{h i:Hp}{b d e:Value}{j:Gra}(a:cJ h b d e j)(g:Mo M h i)(f: ∀c,ao b c\/ao d c\/ao e c-> ¬M c):cJ i b d e j:=
 ⟨a.X.mo g fun c h=>f c (.inl h),a.Y.mo g fun c h=>f c (.inr (.inl h)),a.A.mo g fun c h=>f c (.inr (.inr h))⟩
theorem bF.mo{M:Nat->Prop}{h a:Hp}{m:Nat}{p:Value}{d:Gra}(n:bF h m p d)(g:Mo M h a)(e: ∀b,M b->b<m):bF a m p d:=by
 obtain⟨b,f,i,j,k,l,q,r,s,t,u,v,w⟩:=n.ex
 exact⟨b,f,i,j,k,l,q,g.has (o:=.row _ 1) r (fun h=>by grind),s.mo g (fun c x y=>by grind),t.mo g e,u.mo g e,v,w⟩
theorem bF.gr{h a:Hp}{m:Nat}{p:Value}{b:Gra}(n:bF h m p b)(g:Gr h a):bF a m p b:=n.mo (M:=NoM) g.fr (fun _ h=>h.elim)
theorem jq{a:Type}{N k:Nat}{F F':Nat->a}(b: ∀i,i<N->i≠k->F' i=F i):((zM N).map F).set k (F' k)=(zM N).map F':=by
 refine Xt fun i=>?_
 grind
theorem lU{a:Type}{N k:Nat}{F:Nat->a}(b:k<N):((zM N).map F)[k]? =some (F k):=by simp [b]
end Go.Ab

end
section
namespace Go.Ab
open Go.Proofs
set_option maxRecDepth 10000
def Tryz.F0L:=aj t1<|aj t2<|aj t3<|Z3
def Tryz.F0M:=aj t1<|aj t2<|aj t3<|Z3
def Tryz.Fa:=aj t1<|aj t2<|aj t3<|aj t4<|aj t5<|aj t6<|aj Z1<|aj Z4<|aj t9<|aj t10<|aj t11<|aj t12<|aj Z7<|aj Z13<|aj t15<|aj t16<|aj t17<|aj t18<|aj r18<|aj Z19<|aj t20<|aj t23<|aj t35<|aj Z0<|aj t42<|aj Z3<|aj t76<|aj t92<|aj t161<|aj t176<|aj t248<|aj Z16<|aj t356<|aj t358<|aj t360<|aj t361<|aj t362<|aj t363<|Z15
theorem slice_at{E:Env}{t e:TypeId}{b k len cap l m:Nat}{a c d:IntKind}(i:E.und t=some (.slice e))(j:E.sz e=some k)(f:l<=m)(o:m<=cap):
 eQ E t (.slice (some ⟨b,0,none⟩) len cap) (some (.int a (l:Int))) (some (.int c (l:Int))) (some (.int d (m:Int)))=some (.slice (some ⟨b,if m=l then 0 else l*k,none⟩) 0 (m-l)):=by
 have g: ∀n:Nat,eV (n:Int)=some n:=fun n=>rfl
 simp only [eQ,i,eI,eG,g,Xw o,Xw f,Xw (XD l),cond_true,j,Nat.sub_self,Option.map]
 by_cases h:m=l
 . subst h;rw [Nat.beq_refl];simp
 . have:Nat.beq m l=false:=by
    cases p:Nat.beq m l with
    |false=>rfl
    |true=>exact absurd (Nat.eq_of_beq_eq_true p) h
   rw [this,if_neg h];simp [fi]
theorem St.fill{M:Nat->Prop}{m h:Hp}{L:List (Nat×Ob)}{G:List GL}(S:St M m h L G){E:Env}{t n e:TypeId}{d i b off len cap md:Nat}{u l:List Value}{s:Option Nat}{x v:Value}(p:L[i]? =some (b,.row l md))(w:E.und t=some (.slice e))(z:dE E e d 1 u)
 (A:dz E n=some false) (a:aI h 1 x=some (1,[v])) (B:Fl v) (I:len<cap) (C:off+len<l.length) (f:md≠0) {ts:List TypeId}:
 ∃g,cS E h (t::n::ts) (.slice (some ⟨b,off,s⟩) len cap) x=some (g,.slice (some ⟨b,off,s⟩) (len+1) cap)/\St M m g (L.set i (b,.row (l.set (off+len) v) md)) G/\Mo (· =b) h g:=by
 obtain⟨⟨J,k,rfl,c⟩,K,D⟩:=z
 have F:=S.row (Xs p)
 obtain⟨y,H,q⟩:=F.store S.ok f (o:=off+len) (vs:=[v]) (by simp;omega) (by simp [B.2.1])
 have e:lay l (off+len) [v]=l.set (off+len) v:=by
  refine Xt fun j=>?_
  rw [iZ (by simp;omega),XE]
  simp only [List.length_cons,List.length_nil]
  by_cases r:off+len=j
  . subst r;rw [if_pos ⟨XD _,by omega⟩,if_pos rfl,if_pos C];simp
  . rw [if_neg (by omega),if_neg r]
 rw [e]at q
 refine⟨h.put b y,?_,S.put p q,(Mo.refl (M:=(· =b)) S.ok).put (.inr rfl) y⟩
 simp only [cS,A,iX,w,k,c,a]
 unfold eH
 rw [Xw (by omega:len+1<=cap)]
 simp only [cond_true,c,Xf,H]
theorem note_runq{ρ:Operand->Value}{f:Operand}{xs:Array Operand}{ts:Array TypeId}{h a:Hp}:cj ρ true (.call ⟨.value f,xs,ts⟩) h a=none:=rfl
theorem xo{i:Nat}:cq i []=none:=rfl
theorem pair_n{x:Option Tch}:js none x=true:=rfl
def KeyF(E:Env)(g:FuncId)(f:Arc->Nat):Prop:= ∀(h:Hp) (a:Arc),h.t.Sized h.n->bC E g [.agg ⟨cw a⟩] h (.int .i64 (f a))
theorem of2_key:KeyF zB 100 Arc.s:=by
 intro f a c
 have S:=Si c
 refine ac (n:=5) (rs:=[.tmp 2]) rfl Tryz.e100 rfl rfl rfl (lbt rfl) ?_
 simp only [BS,Nat.reduceLT,cw]
 refine ag (bR (by intro x e;cases e)) S ?_;clear S;intro h b S d;simp only [ah]at S
 simp only [BS,LB,ae,Nat.reduceLT,Nat.reduceEqDiff,F0L,S.ld (b:=b) (o:=0) m0 rfl]
 exact S.gr
theorem of3_key:KeyF zB 101 Arc.t:=by
 intro f a c
 have S:=Si c
 refine ac (n:=5) (rs:=[.tmp 2]) rfl Tryz.e101 rfl rfl rfl (lbt rfl) ?_
 simp only [BS,Nat.reduceLT,cw]
 refine ag (bR (by intro x e;cases e)) S ?_;clear S;intro h b S d;simp only [ah]at S
 simp only [BS,LB,ae,Nat.reduceLT,Nat.reduceEqDiff,F0M,S.ld (b:=b) (o:=1) m0 rfl]
 exact S.gr
theorem oU(A:List Arc)(f:Arc->Nat)(j v:Nat):(outs A f j v).length<=j:=by
 unfold outs
 exact Xl (XL _ _) (by simp)
theorem vf(z:Value)(N:Nat):aR [z] ((N:Int)).toNat=(zM N).map fun _=>z:=by
 rw [XC]
 have: ∀n,aR [z] n=List.replicate n z:=by
  intro n
  induction n with
  |zero=>rfl
  |succ n a=>simp [aR,a,List.replicate_succ]
 rw [this,XA,List.length_range]
def lR(A:List Arc)(f:Arc->Nat)(i v:Nat):Value:=.int .i64 ((outs A f i v).length:Nat)
def gc(A:List Arc)(f:Arc->Nat)(b v n:Nat):Value:=.slice (some ⟨b,if(outs A f A.length v).length=0 then 0 else start A f v,none⟩) n (outs A f A.length v).length
theorem cnt_set{A:List Arc}{f:Arc->Nat}{N i:Nat}(c:i<A.length):((zM N).map (lR A f i)).set (f A[i]) (.int .i64 (((outs A f i (f A[i])).length+1:Nat):Int))=(zM N).map (lR A f (i+1)):=by
 have b:A.getD i default=A[i]:=by simp [Xd,c]
 have e:(.int .i64 (((outs A f i (f A[i])).length+1:Nat):Int):Value)=lR A f (i+1) (f A[i]):=by
  unfold lR;rw [gR,b,if_pos rfl,Xn];rfl
 rw [e]
 refine jq fun v d a=>?_
 unfold lR
 rw [gR,b,if_neg (fun e=>a e.symm),XB]
def uZ(A:List Arc)(f:Arc->Nat)(N i:Nat)(cs:List Value):Prop:=
 cs.length=A.length/\ ∀v r x,v<N->(outs A f i v)[r]? =some x->cs[start A f v+r]? =some (.int .i64 (x:Nat))
theorem fill_zero{A:List Arc}{f:Arc->Nat}{N:Nat}:uZ A f N 0 ((zM A.length).map fun _=>.int .i64 0):=
 ⟨by simp,fun v r x _ h=>by simp [outs]at h⟩
theorem fill_step{A:List Arc}{f:Arc->Nat}{N i:Nat}{cs:List Value}(h:uZ A f N i cs)(k:i<A.length):uZ A f N (i+1) (cs.set (start A f (f A[i])+(outs A f i (f A[i])).length) (.int .i64 (i:Nat))):=by
 have c:A.getD i default=A[i]:=by simp [Xd,k]
 have g:(outs A f (i+1) (f A[i])).length<=(outs A f A.length (f A[i])).length:=vz A f (by omega) _
 rw [gR,c,if_pos rfl,Xn]at g
 have hlt:(outs A f i (f A[i])).length<(outs A f A.length (f A[i])).length:=by simp at g;omega
 have l:=pP A f (f A[i])
 refine⟨by rw [XI];exact h.1,fun v r x m a=>?_⟩
 have n:r<(outs A f (i+1) v).length:=(List.getElem?_eq_some_iff.1 a).1
 have d:r<(outs A f A.length v).length:=Nat.lt_of_lt_of_le n (vz A f (by omega) v)
 rw [XE]
 by_cases e:start A f (f A[i])+(outs A f i (f A[i])).length=start A f v+r
 . obtain⟨b,o⟩:=zX A f hlt d e
   subst b
   rw [if_pos e,if_pos (by rw [h.1];omega)]
   rw [gR,c,if_pos rfl,XP,if_neg (by omega),o,Nat.sub_self]at a
   simp at a
   rw [a]
 . rw [if_neg e]
   refine h.2 v r x m ?_
   rw [gR,c]at a
   by_cases b:f A[i]=v
   . rw [if_pos b,XP]at a
     subst b
     by_cases j:r<(outs A f i (f A[i])).length
     . rw [if_pos j]at a;exact a
     . rw [if_neg j]at a
       have:=(List.getElem?_eq_some_iff.1 a).1
       simp at this
       exact absurd (by omega) e
   . rw [if_neg b,XB]at a;exact a
theorem of1_ok {t:Hp} (ok:t.t.Sized t.n) {y:Gra} (K:eE y) {vx vy L:Value} {b:Nat} (hb:Row t b [.int .i64 y.nodes,vx,vy,L] 1) (ga:cJ t vx vy L y) {g:FuncId} {f:Arc->Nat} (hk:KeyF zB g f) (hf: ∀a∈y.arcs,f a<y.nodes):
 Ret zB 99 [.func (.func g) #[] #[],ptrTo b] t fun v Z=>Gr t Z/\fq Z t.n v y.nodes (outs y.arcs f y.arcs.length):=by
 have S:=Si ok
 have n2:=K.n2
 have M:=K.many
 obtain⟨N,X,Y,A⟩:=y
 simp only []at hb n2 M hf
 have O:au t 3 cw L A:=ga.A
 have l0:=hb.load1 (o:=0) rfl
 have l3:=hb.load1 (o:=3) rfl
 refine ac (n:=85) (rs:=[.tmp 3]) rfl Tryz.e99 rfl rfl rfl (lbt rfl) ?_
 simp only [BS,LB,Nat.reduceLT,Nat.reduceEqDiff,Fa,l0]
 refine ag (m9 (by exact Tryz.t42.1) (by exact Tryz.e3E) (by omega) (by omega)) S ?_;clear S;intro h C S aL
 rw [vf]at S
 replace S:St NoM t h [(C,.row ((zM N).map (lR A f 0)) 1)] []:=S
 simp only [BS,LB,Nat.reduceLT,Nat.reduceEqDiff,Fa,S.old l3 (fun h=>h),O.lenq,XC]
 refine aD (fun(i:Nat) m h=>i<=A.length/\St NoM t h [(C,.row ((zM N).map (lR A f i)) 1)] []/\m 0=.func (.func g) #[] #[]/\m 1=ptrTo b/\m 4=.slice (some ⟨C,0,none⟩) N N/\m 18=L/\m 19=.int .i64 A.length/\m 20=.int .i64 i) (fun i=>A.length-i) ?_ 0 _ _ ?_
 . clear S
   intro i Q m h ⟨hi,S,r0,r1,r4,r18,r19,r20⟩
   by_cases hlt:i<A.length
   . obtain⟨c,o,u,D⟩:=(O.gr S.gr).ix (kd:=.i64) dO hlt
     have p:f A[i]<N:=hf _ (Xx hlt)
     have a5:=oU A f i (f A[i])
     have w:am .i64 ((i:Int)+1)=((i+1:Nat):Int):=by rw [wrap64]<;>omega
     have w2:am .i64 (((outs A f i (f A[i])).length:Int)+1)=(((outs A f i (f A[i])).length+1:Nat):Int):=by rw [wrap64]<;>omega
     simp only [BS,LB,Nat.reduceLT,Nat.reduceEqDiff,Fa,r18,r19,r20,aq,hlt,u,D]
     refine ag aw S ?_;clear S;intro h b6 S a0
     simp only [BS,LB,Nat.reduceLT,Nat.reduceEqDiff,cw]
     refine ax (S.store (i:=0) rfl ?_ ?_ rfl rfl ?_ ono) ?_
     . exact(by exact Tryz.t46.2.1)
     . exact(by intro x e;cases e)
     . exact lbt rfl
     clear S;rintro h ⟨S,z⟩;clear z;simp only [LC,ah,lay,Xa,Xb,Nat.reduceAdd]at S
     simp only [BS,LB,Nat.reduceLT,Nat.reduceEqDiff,Fa,r0,r4,S.lds (b:=b6) (o:=0) (n:=3) m0 (lbt rfl)]
     refine al (hk _ A[i] S.ok) ?_;intro h g;replace S:=S.call g;clear g
     have E:=S.ld (b:=C) (o:=f A[i]) m1 (lU (F:=lR A f i) p)
     unfold lR at E
     simp only [BS,LB,Nat.reduceLT,Nat.reduceEqDiff,Fa,p,E,w2]
     refine ax (av S (i:=1) rfl Tryz.t3.2.2.1 bZ (by simpa using p) ono) ?_
     clear S E;rintro h ⟨S,z⟩;clear z
     simp only [LC]at S
     rw [cnt_set hlt]at S
     replace S:=S.drop1
     simp only [BS,LB,Nat.reduceLT,Nat.reduceEqDiff,r20,w]
     exact Q (i+1) _ _ (by omega) ⟨by omega,S,by simp [aa,r0],by simp [aa,r1,ab],by simp [aa,r4],by simp [aa,r18],by simp [aa,r19],by simp [aa]⟩
   . have G : i=A.length:=by omega
     subst G
     simp only [BS,LB,Nat.reduceLT,r19,r20,aq,hlt]
     refine ar (ay rfl) (q:=72) (ps:=[]) (by kernel_rfl) ?_
     simp only [BS,LB,cls,Nat.reduceLT,Nat.reduceEqDiff,Nat.reduceAdd,Nat.reducePow,Nat.reduceDiv,Nat.reduceMod,Nat.reduceLeDiff,Fa,r1,S.old l3 (fun h=>h),O.lenq]
     refine fe (m9 (by exact Tryz.t42.1) (by exact Tryz.e3E) (by omega) (by omega)) S ?_;clear S;intro h d S R a1
     rw [vf]at S
     simp only [BS,LB,cls,Nat.reduceLT,Nat.reduceEqDiff,Nat.reduceAdd,Nat.reducePow,Nat.reduceDiv,Nat.reduceMod,Nat.reduceLeDiff,Fa,r1,S.old l0 (fun h=>h),XC]
     refine fe (m9 (by exact Tryz.t92.1) (by exact Tryz.e42E) (by omega) (by omega)) S ?_;clear S;intro h I S T a2
     rw [vf]at S
     simp only [BS,LB,cls,Nat.reduceLT,Nat.reduceEqDiff,Nat.reduceAdd,Nat.reducePow,Nat.reduceDiv,Nat.reduceMod,Nat.reduceLeDiff,Fa,r4,XC]
     have e0:(zM N).map (fun v=>if v<0 then gc A f d v 0 else .slice none 0 0)=(zM N).map (fun _=>(.slice none 0 0:Value)):=by simp
     rw [<-e0]at S
     refine aD (fun(j:Nat) m h=>j<=N/\St NoM t h [(I,.row ((zM N).map fun v=>if v<j then gc A f d v 0 else .slice none 0 0) 1),(d,.row ((zM A.length).map fun _=>.int .i64 0) 1),(C,.row ((zM N).map (lR A f A.length)) 1)] []/\
      m 0=.func (.func g) #[] #[]/\m 1=ptrTo b/\m 7=.slice (some ⟨d,0,none⟩) A.length A.length/\m 8=.slice (some ⟨I,0,none⟩) N N/\m 9=.int .i64 (start A f j)/\m 40=.slice (some ⟨C,0,none⟩) N N/\m 41=.int .i64 N/\m 42=.int .i64 j) (fun j=>N-j) ?_ 0 _ _ ?_
     . clear S r0 r1 r4 r18 r19 r20
       intro j Q m h ⟨hj,S,r0,r1,r7,r8,r9,r40,r41,r42⟩
       by_cases B:j<N
       . have E:=S.ld (b:=C) (o:=j) m2 (lU (F:=lR A f A.length) B)
         unfold lR at E
         have ad:=pP A f j
         have w:am .i64 ((j:Int)+1)=((j+1:Nat):Int):=by rw [wrap64]<;>omega
         have w2:am .i64 ((start A f j:Int)+((outs A f A.length j).length:Nat))=((start A f j+(outs A f A.length j).length:Nat):Int):=by rw [wrap64]<;>omega
         have sl:eQ zB 42 (.slice (some ⟨d,0,none⟩) A.length A.length) (some (.int .i64 (start A f j))) (some (.int .i64 (start A f j))) (some (.int .i64 ((start A f j+(outs A f A.length j).length:Nat):Int)))=some (gc A f d j 0):=by
          rw [slice_at Tryz.t42.1 Tryz.t3.2.2.1 (by omega) (by omega)]
          unfold gc
          rw [Nat.add_sub_cancel_left,Xf]
          by_cases H:(outs A f A.length j).length=0
          . rw [if_pos (by omega),if_pos H]
          . rw [if_neg (by omega),if_neg H]
         have fr:Fl (gc A f d j 0):=bU
         simp only [BS,LB,Nat.reduceLT,Nat.reduceEqDiff,Option.map_some,Fa,r7,r8,r9,r40,r41,r42,aq,B,E,w2,sl]
         refine ax (av S (i:=0) rfl Tryz.t42.2.2.1 fr (by simpa using B) ono) ?_
         clear S E;rintro h ⟨S,z⟩;clear z
         simp only [LC]at S
         rw [show((zM N).map fun v=>if v<j then gc A f d v 0 else .slice none 0 0).set j (gc A f d j 0)=(zM N).map fun v=>if v<j+1 then gc A f d v 0 else .slice none 0 0 from by
          have:=jq (N:=N) (k:=j) (F:=fun v=>if v<j then gc A f d v 0 else .slice none 0 0) (F':=fun v=>if v<j+1 then gc A f d v 0 else .slice none 0 0) (fun v J U=>by
           show ite _ _ _=ite _ _ _
           by_cases h1:v<j
           . rw [if_pos h1,if_pos (by omega)]
           . rw [if_neg h1,if_neg (by omega)])
          simp only [if_pos (show j<j+1 by omega)]at this
          exact this]at S
         simp only [BS,LB,Nat.reduceLT,Nat.reduceEqDiff,r9,r42,w,w2]
         exact Q (j+1) _ _ (by omega) ⟨by omega,S,by simp [aa,r0],by simp [aa,r1,ab],by simp [aa,r7],by simp [aa,r8],by simp [aa,start],by simp [aa,r40],by simp [aa,r41],by simp [aa]⟩
       . have af:j=N:=by omega
         subst af
         simp only [BS,LB,Nat.reduceLT,Nat.reduceEqDiff,Fa,r1,r41,r42,aq,B,S.old l3 (fun h=>h),O.lenq]
         have e1:((zM j).map fun v=>if v<j then gc A f d v 0 else .slice none 0 0)=(zM j).map fun v=>gc A f d v (outs A f 0 v).length:=by
          refine List.map_congr_left fun v J=>?_
          rw [if_pos (List.mem_range.1 J)];rfl
         rw [e1]at S
         refine aD (fun(i:Nat) m h=>i<=A.length/\(∃cs,uZ A f j i cs/\St NoM t h [(I,.row ((zM j).map fun v=>gc A f d v (outs A f i v).length) 1),(d,.row cs 1),(C,.row ((zM j).map (lR A f A.length)) 1)] [])/\
          m 0=.func (.func g) #[] #[]/\m 1=ptrTo b/\m 8=.slice (some ⟨I,0,none⟩) j j/\m 62=L/\m 63=.int .i64 A.length/\m 64=.int .i64 i) (fun i=>A.length-i) ?_ 0 _ _ ?_
         . clear S r0 r1 r7 r8 r9 r40 r41 r42
           intro i Q m h ⟨hi,⟨cs,hcs,S⟩,r0,r1,r8,r62,r63,r64⟩
           by_cases hlt:i<A.length
           . obtain⟨c,o,u,D⟩:=(O.gr S.gr).ix (kd:=.i64) dO hlt
             have p:f A[i]<j:=hf _ (Xx hlt)
             have w:am .i64 ((i:Int)+1)=((i+1:Nat):Int):=by rw [wrap64]<;>omega
             simp only [BS,LB,Nat.reduceLT,Nat.reduceEqDiff,Fa,r62,r63,r64,aq,hlt,u,D]
             refine ag aw S ?_;clear S;intro h V S ai
             simp only [BS,LB,Nat.reduceLT,Nat.reduceEqDiff,cw]
             refine ax (S.store (i:=0) rfl ?_ ?_ rfl rfl ?_ ono) ?_
             . exact(by exact Tryz.t46.2.1)
             . exact(by intro x e;cases e)
             . exact lbt rfl
             clear S;rintro h ⟨S,z⟩;clear z;simp only [LC,ah,lay,Xa,Xb,Nat.reduceAdd]at S
             simp only [BS]
             refine ar (ay rfl) (q:=2184) (ps:=[(3,6)]) (by kernel_rfl) ?_
             simp only [BS,LB,cls,Nat.reduceLT,Nat.reduceEqDiff,Nat.reduceAdd,Nat.reducePow,Nat.reduceDiv,Nat.reduceMod,Nat.reduceLeDiff,Fa,r0,r8,S.lds (b:=V) (o:=0) (n:=3) m0 (lbt rfl)]
             refine dq_pure (hk _ A[i] S.ok) ?_
             intro h W;replace S:=S.call W;clear W
             simp only [BS,LB,cls,Nat.reduceLT,Nat.reduceEqDiff,Nat.reduceAdd,Nat.reducePow,Nat.reduceDiv,Nat.reduceMod,Nat.reduceLeDiff,Fa,r0,r8,S.lds (b:=V) (o:=0) (n:=3) m0 (lbt rfl)]
             refine dq_pure (hk _ A[i] S.ok) ?_
             intro h W;replace S:=S.call W;clear W
             have hd:A.getD i default=A[i]:=by simp [Xd,hlt]
             have hl:(outs A f (i+1) (f A[i])).length<=(outs A f A.length (f A[i])).length:=vz A f (by omega) _
             rw [gR,hd,if_pos rfl,Xn,XM]at hl
             have ad:=pP A f (f A[i])
             have hK:(outs A f A.length (f A[i])).length≠0:=by omega
             have lr:=S.ld (b:=I) (o:=f A[i]) m1 (lU (F:=fun v=>gc A f d v (outs A f i v).length) p)
             simp only [gc,if_neg hK]at lr
             simp only [BS,LB,cls,Nat.reduceLT,Nat.reduceEqDiff,Nat.reduceAdd,Nat.reducePow,Nat.reduceDiv,Nat.reduceMod,Nat.reduceLeDiff,Fa,p,lr]
             refine fe (bj (by exact Tryz.t42.1) (by exact Tryz.e3E) (by decide) (by rfl)) S ?_;clear S;intro h bs S a3 a4;simp only [LC,aR,bo,ah,Nat.reduceMul,Nat.reduceAdd,Xg,Xe,Xf,Xi]at S
             simp only [BS,LB,cls,Nat.reduceLT,Nat.reduceEqDiff,Nat.reduceAdd,Nat.reducePow,Nat.reduceDiv,Nat.reduceMod,Nat.reduceLeDiff]
             obtain⟨h2,e2,S2,ak⟩:=S.fill (i:=3) (x:=.slice (some ⟨bs,0,none⟩) 1 1) (v:=.int .i64 (i:Nat)) (off:=start A f (f A[i])) (len:=(outs A f i (f A[i])).length) (cap:=(outs A f A.length (f A[i])).length) (s:=none) rfl Tryz.t42.1 Tryz.e3E Tryz.t42.2.2.2.2.2
              (by simp only [aI];rw [S.lds (b:=bs) (o:=0) (n:=1*1) m0 (lbt rfl)];rfl) bZ (by omega) (by have:=hcs.1;omega) ono (ts:=[])
             refine kJ (P:=fun Z v=>Z=h2/\v=.slice (some ⟨d,start A f (f A[i]),none⟩) ((outs A f i (f A[i])).length+1) (outs A f A.length (f A[i])).length) ⟨_,_,e2,rfl,rfl⟩ ?_
             rintro h v ⟨rfl,rfl⟩
             clear S e2 ak;have S:=S2;clear S2
             simp only [LC]at S
             simp only [BS,LB,cls,Nat.reduceLT,Nat.reduceEqDiff,Nat.reduceAdd,Nat.reducePow,Nat.reduceDiv,Nat.reduceMod,Nat.reduceLeDiff,Fa,p]
             refine ep (av S (i:=2) rfl Tryz.t42.2.2.1 bU (by simpa using p) ono) ?_
             clear S;rintro h ⟨S,z⟩;clear z
             simp only [LC]at S
             have e3:((zM j).map fun v=>gc A f d v (outs A f i v).length).set (f A[i]) (.slice (some ⟨d,start A f (f A[i]),none⟩) ((outs A f i (f A[i])).length+1) (outs A f A.length (f A[i])).length)=(zM j).map fun v=>gc A f d v (outs A f (i+1) v).length:=by
              have:=jq (N:=j) (k:=f A[i]) (F:=fun v=>gc A f d v (outs A f i v).length) (F':=fun v=>gc A f d v (outs A f (i+1) v).length) (fun v J U=>by
               show gc _ _ _ _ _=gc _ _ _ _ _
               rw [gR,hd,if_neg (fun e=>U e.symm),XB])
              rw [<-this]
              congr 1
              show _=gc _ _ _ _ _
              rw [gR,hd,if_pos rfl,Xn]
              unfold gc
              rw [if_neg hK];rfl
             rw [e3]at S
             replace S:=S.drop1.drop1
             simp only [BS,LB,Nat.reduceLT,Nat.reduceEqDiff,Nat.reduceAdd,r64,w]
             refine⟨by simp only [bQ,bW,bE,cd,bM,ne_eq,not_false_eq_true,ce,cB,bO,bN,cy,dr,bK,Nat.reduceLT,Nat.reduceEqDiff,reduceIte,Xr,r0,r1,r8,ab,note_runq,qs,xo,pair_n],?_⟩
             exact Q (i+1) _ _ (by omega) ⟨by omega,⟨_,fill_step hcs hlt,S⟩,by simp [aa,r0],by simp [aa,r1,ab],by simp [aa,r8],by simp [aa,r62],by simp [aa,r63],by simp [aa]⟩
           . have G:i=A.length:=by omega
             subst G
             simp only [BS,LB,ae,Nat.reduceLT,Nat.reduceEqDiff,r8,r63,r64,aq,hlt]
             refine⟨S.gr,I,_,rfl,T,S.row m0,by simp,fun v J=>⟨_,lU J,.inr ⟨d,_,none,_,rfl,XD _,?_⟩,fun c (hc:d=c)=>hc▸R⟩⟩
             have hR:=S.row (b:=d) (l:=cs) (md:=1) m1
             have ht:=pP A f v
             have hl:=hcs.1
             rw [Xf]
             by_cases H:(outs A f A.length v).length=0
             . rw [if_pos H,H,hR.load (by omega)]
               rw [List.length_eq_zero_iff.1 H];rfl
             . rw [if_neg H,hR.load (by omega)]
               congr 1
               refine Xt fun r=>?_
               have e4:(outs A f A.length v).flatMap d7=(outs A f A.length v).map fun x=>.int .i64 (x:Nat):=by
                rw [XN,List.map_eq_flatMap,XN];rfl
               rw [e4,Xp,List.getElem?_take,List.getElem?_drop]
               by_cases hr:r<(outs A f A.length v).length
               . rw [if_pos hr,hcs.2 v r _ J (Xo hr),Xo hr];rfl
               . rw [if_neg hr,XO (by omega)];rfl
         . exact⟨XJ _,⟨_,fill_zero,S⟩,by simp [aa,r0],by simp [aa,r1,ab],by simp [aa,r8],by simp [aa],by simp [aa],by simp [aa]⟩
     . exact⟨XJ _,S,by simp [aa,r0],by simp [aa,r1,ab],by simp [aa],by simp [aa],by simp [aa,start],by simp [aa,r4],by simp [aa],by simp [aa]⟩
 . exact⟨XJ _,S,by simp [aa,aB],by simp [aa,aB,aY,ab],by simp [aa],by simp [aa],by simp [aa],by simp [aa]⟩
def Tryz.Fv:=aj t1<|aj t2<|aj t3<|aj t4<|aj t23<|aj t29<|aj t35<|aj Z0<|aj t42<|aj Z3<|aj t92<|aj Z2<|aj t176<|t177
def Tryz.F07:=aj t1<|aj t2<|aj t3<|aj t4<|aj t5<|aj t23<|aj t29<|aj t35<|aj Z0<|aj Z3<|aj t48<|aj t51<|aj t92<|aj Z2<|aj t106<|aj r106<|aj t108<|aj t110<|r110
theorem of_ok{k:Hp}(G:k.t.Sized k.n){r:Gra}(d:eE r){s t u:Value}(w:cJ k s t u r){m:Nat}(y:m<=k.n)(H: ∀c,ao s c\/ao t c\/ao u c->m<=c):
 Ret zB 44 [fW r s t u] k fun v C=>Gr k C/\bF C m v r:=by
 have S:=Si G
 refine ac (n:=20) (rs:=[.tmp 2]) rfl Tryz.e44 rfl rfl rfl (lbt rfl) ?_
 simp only [BS,Nat.reduceLT,fW]
 refine ag (bR (by intro x e;cases e)) S ?_;clear S;intro h b S I;simp only [ah]at S
 simp only [BS,LB,Nat.reduceLT,Nat.reduceEqDiff,Nat.reduceAdd,Nat.reduceLeDiff,Fv,Xu,Xq,Xv,S.lds (b:=b) (o:=0) (n:=4) m0 (lbt rfl)]
 refine ag (bR (by intro x e;cases e)) S ?_;clear S;intro h p S q;simp only [ah]at S
 simp only [BS,LB,Nat.reduceLT,Nat.reduceEqDiff]
 have J:=S.fr.n
 have z:=(S.row (b:=p) m0).lt S.ok
 refine step_ret (of1_ok S.ok d (S.row m1) (w.gr S.gr) of2_key (fun a A=>(d.arcs a A).1)) ?_;intro D h ⟨g,f⟩;replace S:=S.call g;clear g
 simp only [BS,LB,Nat.reduceLT,Nat.reduceEqDiff]
 have K:=S.fr.n
 have B:=(S.row (b:=p) m0).lt S.ok
 refine step_ret (of1_ok S.ok d (S.row m1) (w.gr S.gr) of3_key (fun a A=>(d.arcs a A).2.1)) ?_;intro v h ⟨g,l⟩;replace S:=S.call g;replace f:=f.gr g;clear g
 have L:Fl v:=by obtain⟨_,_,rfl,_⟩:=l;exact bU
 have M:Fl D:=by obtain⟨_,_,rfl,_⟩:=f;exact bU
 simp only [BS,LB,Nat.reduceLT,Nat.reduceEqDiff,Fv]
 have E: ∀c,c=p->c<_:=fun c e=>e▸z
 have F: ∀c,c=p->c<_:=fun c e=>e▸B
 refine ax (av S (i:=0) rfl ?_ ?_ ?_ ono) ?_
 . exact(by simp only [Fv])
 . exact(by assumption)
 . exact Xc (lbt rfl)
 clear S;rintro h ⟨S,j⟩;replace f:=f.mo j E;replace l:=l.mo j F;clear j;simp only [LC,ah,lay,Xa,Xb,Nat.reduceAdd]at S
 simp only [BS,LB,Nat.reduceLT,Nat.reduceEqDiff,Fv]
 refine ax (av S (i:=0) rfl ?_ ?_ ?_ ono) ?_
 . exact(by simp only [Fv])
 . exact(by assumption)
 . exact Xc (lbt rfl)
 clear S;rintro h ⟨S,j⟩;replace f:=f.mo j E;replace l:=l.mo j F;clear j;simp only [LC,ah,lay,Xa,Xb,Nat.reduceAdd]at S
 simp only [BS,LB,ae,Nat.reduceLT,Nat.reduceEqDiff]
 exact⟨S.gr,p,s,t,u,D,v,rfl,S.row m0,w.gr S.gr,f.low (Xl y J),l.low (Xl y K),Xl y q,H⟩
theorem wS{a:Hp}(q:a.t.Sized a.n){f:Gra}(d:eE f){i j k:Value}(l:cJ a i j k f):
 Ret zB 14 [fW f i j k] a fun r p=> ∃v,r=.tuple #[v,.nilIface]/\Gr a p/\bF p a.n v f:=by
 have S:=Si q
 refine ac (n:=17) (rs:=[.tmp 2,.tmp 3]) rfl Tryz.e14 rfl rfl rfl (lbt rfl) ?_
 simp only [BS,Nat.reduceLT,fW]
 refine ag (bR (by intro x e;cases e)) S ?_;clear S;intro h b S s;simp only [ah]at S
 simp only [BS,LB,Nat.reduceLT,Nat.reduceEqDiff,F07,Xu,Xq,Xv,S.lds (b:=b) (o:=0) (n:=4) m0 (lbt rfl)]
 refine al (check_ok S.ok d (l.gr S.gr)) ?_;intro h g;replace S:=S.call g;clear g
 simp only [BS,LB,Nat.reduceLT,Nat.reduceEqDiff,F07,Xu,Xq,Xv,S.lds (b:=b) (o:=0) (n:=4) m0 (lbt rfl)]
 have t:=S.fr.n
 refine step_ret (own_ok S.ok d (l.gr S.gr)) ?_;intro v h ⟨g,vx',vy',va',u,ga',hz,_⟩;replace S:=S.call g;clear g
 subst u
 simp only [BS,LB,Nat.reduceLT,Nat.reduceEqDiff]
 refine step_ret (of_ok S.ok d ga' (m:=a.n) S.fr.n (fun c w=>Xl t (hz c w))) ?_;intro v h ⟨g,R⟩;replace S:=S.call g;clear g
 simp only [BS,LB,ae,Nat.reduceLT,Nat.reduceEqDiff]
 exact⟨_,rfl,S.gr,R⟩
def Tryz.F08:=aj t1<|aj t2<|aj t3<|aj t4<|aj t5<|t167
def Tryz.F09:=aj t1<|aj t2<|aj t3<|aj t79<|t167
def Tryz.F0a:=aj t1<|aj t2<|aj t3<|aj t4<|aj t5<|aj t6<|aj t42<|t79
def pos:List Int->Int->Option Nat
 | [],_=>none
 |y::a,x=>if x=y then some 0 else(pos a x).map (· +1)
def iN:Nat->List Int->List (Value×Value×Nat)
 |_,[]=>[]
 |o,x::a=>(.int .i64 x,.int .i64 (o:Nat),o)::iN (o+1) a
theorem ents_app(o:Nat)(l:List Int)(x:Int):iN o (l++[x])=iN o l++[(.int .i64 x,.int .i64 ((o+l.length:Nat):Int),o+l.length)]:=by
 induction l generalizing o with
 |nil=>rfl
 | cons y a b=>
   show _::iN (o+1) (a++[x])=_::(iN (o+1) a++_)
   rw [b,List.length_cons,show o+1+a.length=o+(a.length+1) by omega]
theorem ents_len(o:Nat)(l:List Int):(iN o l).length=l.length:=by
 induction l generalizing o with
 |nil=>rfl
 |cons y a b=>show(iN (o+1) a).length+1=_;rw [b];rfl
theorem keq_int{x y:Int}:bH (.int .i64 x) (.int .i64 y)=some (decide (x=y)):=by
 show some (gf x y)=_
 congr 1
 rw [j9]
theorem uN(o:Nat)(l:List Int)(x:Int):aP (.int .i64 x) (iN o l)=some ((pos l x).map fun i=>(.int .i64 ((o+i:Nat):Int),o+i)):=by
 induction l generalizing o with
 |nil=>rfl
 | cons y a b=>
   show(match bH (.int .i64 x) (.int .i64 y)with|none=>none|some true=>some (some (Value.int .i64 (o:Nat),o))|some false=>aP (.int .i64 x) (iN (o+1) a))=_
   rw [keq_int,pos]
   by_cases h:x=y
   . rw [if_pos h,decide_eq_true h];rfl
   . rw [if_neg h,decide_eq_false h]
     show aP (.int .i64 x) (iN (o+1) a)=_
     rw [b]
     cases pos a x with
     |none=>rfl
     |some i=>simp;omega
theorem St.mput{M:Nat->Prop}{d h:Hp}{L:List (Nat×Ob)}{G:List GL}(S:St M d h L G){E:Env}{t kt el:TypeId}{i b c:Nat}{a:List (Value×Value×Nat)}{k v:Value}(e:L[i]? =some (b,.map a c))(j:E.und t=some (.map kt el))(hf:aV E kt k=true)(l:aP k a=some none):
 ∃f,dH E h t (.map (some b)) k v=some f/\St M d f (L.set i (b,.map (a++[(k,v,c)]) (c+1))) G:=by
 have g:h.get b=some (.map a c):=(S.own _ (Xs e)).2
 refine⟨h.put b (.map (a++[(k,v,c)]) (c+1)),?_,S.put e ?_⟩
 . simp only [dH,iP,j,hf,cond_true,g,l]
 . show(h.put b _).get b=_
   rw [Hp.get_put,if_pos ⟨rfl,by rw [g];rfl⟩]
theorem zG{E:Env}{h:Hp}{t kt el:TypeId}{b c:Nat}{l:List Int}{x:Int}(a:E.und t=some (.map kt el))(d:E.und kt=some (.int .i64))(e:E.zeroV el=some (.int .i64 0))(f:h.get b=some (.map (iN 0 l) c)):
 dc E h t (.map (some b)) (.int .i64 x) true=some (match pos l x with|some i=>.tuple #[.int .i64 (i:Nat),.bool true]|none=>.tuple #[.int .i64 0,.bool false]):=by
 have hf:aV E kt (.int .i64 x)=true:=by simp only [aV,d];rfl
 simp only [dc,a,hf,cond_true,f,uN,e]
 cases pos l x with
 |none=>rfl
 |some i=>simp
def lZ(ks:List Int)(x:Int):Nat:=match pos ks x with|some i=>i|none=>ks.length
def mj(ks:List Int)(x:Int):List Int:=match pos ks x with|some _=>ks|none=>ks++[x]
def norm:List Int->List Int->List Int
 |_,[]=>[]
 |a,x::b=>(lZ a x:Int)::norm (mj a x) b
theorem name_ok{a:Hp}(l:a.t.Sized a.n){f b:Nat}{ks:List Int}{x:Int}(m:Row a f [.map (some b)] 1)(c:a.get b=some (.map (iN 0 ks) ks.length)):
 Ret zB 189 [.int .i64 x,ptrTo f] a fun v g=>Mo (· =b) a g/\v=.int .i64 (lZ ks x)/\g.get b=some (.map (iN 0 (mj ks x)) (mj ks x).length):=by
 have S:=St.init1 l (o:=.map (iN 0 ks) ks.length) c
 have j:=m.load1 (o:=0) rfl
 have d:=zG (x:=x) Tryz.t167.1 Tryz.t3.1 (by kernel_rfl) c
 have k:lq (some (.map 3 3)) a (.map (some b))=some (.val (.int .i64 (iN 0 ks).length),a):=lenq_map c
 rw [ents_len]at k
 unfold lZ mj
 cases e:pos ks x with
 | some i=>
   rw [e]at d
   refine ac (n:=20) (rs:=[.tmp 3]) rfl Tryz.e189 rfl rfl rfl (lbt rfl) ?_
   simp only [BS,LB,ae,Nat.reduceLT,Nat.reduceEqDiff,F08,j,d]
   exact⟨S.fr,c⟩
 | none=>
   rw [e]at d
   refine ac (n:=20) (rs:=[.tmp 3]) rfl Tryz.e189 rfl rfl rfl (lbt rfl) ?_
   simp only [BS,LB,Nat.reduceLT,Nat.reduceEqDiff,F08,j,d,k]
   refine ax (S.mput (i:=0) rfl Tryz.t167.1 (by simp only [aV,Tryz.t3.1];rfl) (by rw [uN,e];rfl)) ?_
   clear S;intro h S
   simp only [LC]at S
   simp only [BS,LB,ae,Nat.reduceLT,Nat.reduceEqDiff]
   have p:h.get b=some (.map (iN 0 ks++[(.int .i64 x,.int .i64 ks.length,ks.length)]) (ks.length+1)):=(S.own _ m0).2
   refine⟨S.fr,?_⟩
   rw [ents_app,Xn,Xe];exact p
theorem namer_ok{a:Hp}(g:a.t.Sized a.n):Ret zB 140 [] a fun v f=>Gr a f/\ ∃b c,v=.func (.func 189) #[] #[ptrTo b]/\a.n<=b/\a.n<=c/\Row f b [.map (some c)] 1/\f.get c=some (.map [] 0):=by
 have S:=Si g
 refine ac (n:=4) (rs:=[.tmp 0]) rfl Tryz.e140 rfl rfl rfl (lbt rfl) ?_
 simp only [BS]
 refine ag rM S ?_;clear S;intro h c S d
 simp only [BS,F09]
 refine ag aw S ?_;clear S;intro h b S e
 simp only [BS,LB,Nat.reduceLT,Nat.reduceEqDiff]
 refine ax (av S (i:=0) rfl ?_ ?_ ?_ ono) ?_
 . exact(by simp only [F09])
 . exact(by exact fl_map)
 . exact Xc (lbt rfl)
 clear S;rintro h ⟨S,j⟩;clear j;simp only [LC,ah,lay,Xa,Xb,Nat.reduceAdd]at S
 simp only [BS,LB,ae,Nat.reduceLT,Nat.reduceEqDiff]
 exact⟨S.gr,b,c,rfl,e,d,S.row m0,(S.own _ m1).2⟩
theorem each_ok{d:Hp}(J:d.t.Sized d.n){y g:Nat}{ks l:List Int}{v:Value}(F:Row d y [.map (some g)] 1)(z:d.get g=some (.map (iN 0 ks) ks.length))(A:au d 1 (encI .i64) v l)(O:l.length<1000):
 Ret zB 139 [v,.func (.func 189) #[] #[ptrTo y]] d fun r G=>Mo (· =g) d G/\au G 1 (encI .i64) r (norm ks l)/\ ∀c,ao r c->d.n<=c:=by
 have S:=St.init1 J (o:=.map (iN 0 ks) ks.length) z
 have B: ∀c,ao v c-> ¬c=g:=by
  rintro c q rfl
  rcases A with⟨rfl,_⟩|⟨b,o,s,P,rfl,_,K⟩
  . exact q.elim
  . have:b=c:=q
    subst this
    simp [Hp.load,z]at K
 have C: ¬y=g:=by
  rintro rfl
  obtain⟨t,el,e,_⟩:=F
  rw [z]at e;cases e
 refine ac (n:=21) (rs:=[.tmp 4]) rfl Tryz.e139 rfl rfl rfl (lbt rfl) ?_
 simp only [BS,LB,Nat.reduceLT,Nat.reduceEqDiff,F0a,A.lenq]
 replace S:=S.nilG (k:=1)
 refine aD (fun(i:Nat) p h=>i<=l.length/\ ∃(a done:List Int) (D:Value),norm ks l=done++norm a (l.drop i)/\done.length=i/\St (· =g) d h [(g,.map (iN 0 a) a.length)] [(D,1,ints done)]/\
  p 1=.func (.func 189) #[] #[ptrTo y]/\p 4=D/\p 7=v/\p 8=.int .i64 l.length/\p 9=.int .i64 i) (fun i=>l.length-i) ?_ 0 _ _ ?_
 . clear S
   intro i L p h ⟨hi,a,done,D,hn,hd,S,r1,r4,r7,r8,r9⟩
   by_cases hlt:i<l.length
   . obtain⟨c,o,u,x⟩:=(A.mo S.fr B).ix (kd:=.i64) (aM .i64) hlt
     have w:am .i64 ((i:Int)+1)=((i+1:Nat):Int):=by rw [wrap64]<;>omega
     simp only [BS,LB,Nat.reduceLT,Nat.reduceEqDiff,F0a,r1,r4,r7,r8,r9,aq,hlt,u,x,encI]
     refine step_ret (name_ok S.ok (S.fr.has (o:=.row _ 1) F C) (S.own _ m0).2) ?_
     rintro r h ⟨f,rfl,H⟩
     replace S:=S.call1 (i:=0) rfl f (o':=.map _ _) H
     simp only [LC]at S
     simp only [BS,LB,Nat.reduceLT,Nat.reduceEqDiff]
     refine ag (bj (by exact Tryz.t42.1) (by exact Tryz.e3E) (by decide) (by rfl)) S ?_;clear S;intro h M S I;simp only [LC,aR,bo,ah,Nat.reduceMul,Nat.reduceAdd,Xg,Xe,Xf,Xi]at S
     simp only [BS,LB,Nat.reduceLT,Nat.reduceEqDiff]
     refine dX (S.grow (j:=0) (m:=1) (new:=ints [(lZ a l[i]:Int)]) rfl Tryz.t42.1 Tryz.e3E (by decide) Tryz.t42.2.2.2.2.2 (by simp only [aI];rw [S.lds (b:=M) (o:=0) (n:=1*1) m0 (lbt rfl)];rfl) rfl (by decide) rfl (by rw [bD,bD];simp;omega)) ?_
     clear S f H x
     rintro h N S
     simp only [LC]at S
     replace S:=S.drop1
     rw [<-ia]at S
     simp only [BS,LB,Nat.reduceLT,Nat.reduceEqDiff,r9,w]
     refine L (i+1) _ _ (by omega) ⟨by omega,_,_,_,?_,?_,S,by simp [aa,r1,ab],by simp [aa],by simp [aa,r7],by simp [aa,r8],by simp [aa]⟩
     . rw [hn,List.drop_eq_getElem_cons hlt,norm,List.append_assoc];rfl
     . simp [hd]
   . have E:i=l.length:=by omega
     simp only [BS,LB,ae,Nat.reduceLT,Nat.reduceEqDiff,r4,r8,r9,aq,hlt]
     have e:norm ks l=done:=by rw [hn,E,List.drop_length,norm,XB]
     rw [e]
     exact⟨S.fr,(S.gown _ m0).1.sl rfl (aM .i64) (by decide),fun c q=>((S.gblk m0 q).1).elim (fun h=>h) (fun h=>((S.gblk m0 q).2 (by simp [h])).elim)⟩
 . exact⟨XJ _,ks,[],_,rfl,rfl,S,by simp [aa,aB,aY,ab],by simp [aa],by simp [aa,aB],by simp [aa],by simp [aa]⟩
end Go.Ab
end
section
namespace Go.Ab
structure Hd where
 id:Nat
 key:Int
deriving Inhabited,DecidableEq
def hle(a b:Hd):Prop:=a.key<b.key\/(a.key=b.key/\a.id<=b.id)
def hlt(a b:Hd):Prop:=a.key<b.key\/(a.key=b.key/\a.id<b.id)
instance (a b:Hd):Decidable (hlt a b):=by unfold hlt;infer_instance
theorem tW{a b:Hd}(h: ¬hlt a b):hle b a:=by unfold hlt at h;unfold hle;omega
theorem qU{a b:Hd}(h:hlt a b):hle a b:=by unfold hlt at h;unfold hle;omega
theorem jm{a b c:Hd}(h:hle a b)(k:hle b c):hle a c:=by unfold hle at*;omega
theorem tE(a:Hd):hle a a:=by unfold hle;omega
def sw(l:List Hd)(i k:Nat):List Hd:=(l.set i (l.getD k default)).set k (l.getD i default)
theorem gk(l:List Hd)(i k:Nat):(sw l i k).length=l.length:=by simp [sw]
theorem oZ(l:List Hd)(i j:Nat)(x:Hd):(l.set i x).getD j default=if i=j/\j<l.length then x else l.getD j default:=by
 grind
theorem ij(l:List Hd){i k:Nat}(a:i<l.length)(b:k<l.length)(j:Nat):(sw l i k).getD j default=if j=k then l.getD i default else if j=i then l.getD k default else l.getD j default:=by
 unfold sw
 grind
theorem rX(l:List Hd){i k:Nat}(a:i<l.length)(b:k<l.length):(sw l i k).Perm l:=by
 grind[set,List.set_set_perm,sw,default]
def kH(l:List Hd):Prop:= ∀j,0<j->j<l.length->hle (l.getD ((j-1)/4) default) (l.getD j default)
def qy(l:List Hd)(i:Nat):Prop:=(∀j,0<j->j<l.length->j≠i->hle (l.getD ((j-1)/4) default) (l.getD j default))/\ ∀j,0<j->j<l.length->(j-1)/4=i->0<i->hle (l.getD ((i-1)/4) default) (l.getD j default)
theorem up_done{l:List Hd}{i:Nat}(h:qy l i)(c:i=0\/hle (l.getD ((i-1)/4) default) (l.getD i default)):kH l:=by
 intro j a b
 by_cases e:j=i
 . grind
 . exact h.1 j a b e
theorem up_step{l:List Hd}{i:Nat}(e:i<l.length)(h:qy l i)(n:0<i)(k:hlt (l.getD i default) (l.getD ((i-1)/4) default)):qy (sw l i ((i-1)/4)) ((i-1)/4):=by
 have c:(i-1)/4<l.length:=by omega
 generalize f:(i-1)/4=p at*
 have s:p<i:=by omega
 refine⟨fun j d a m=>?_,fun j d a m o=>?_⟩
 . rw [gk]at a
   rw [ij l e c,ij l e c,if_neg m]
   by_cases b:j=i
   . subst b;rw [f,if_pos rfl,if_pos rfl];exact qU k
   . rw [if_neg b]
     by_cases g:(j-1)/4=p
     . rw [if_pos g]
       have:=h.1 j d a b
       rw [g]at this
       exact jm (qU k) this
     . rw [if_neg g]
       by_cases e3:(j-1)/4=i
       . rw [if_pos e3];have:=h.2 j d a e3 n;grind
       . rw [if_neg e3];exact h.1 j d a b
 . rw [gk]at a
   have q: ¬(p-1)/4=p:=by omega
   have r: ¬(p-1)/4=i:=by omega
   rw [ij l e c,ij l e c,if_neg q,if_neg r,if_neg (show¬j=p by omega)]
   have t:=h.1 p o c (by omega)
   by_cases b:j=i
   . grind
   . rw [if_neg b]
     have:=h.1 j d a b
     grind[jm]
def rI(l:List Hd)(i:Nat):Prop:=(∀j,0<j->j<l.length->(j-1)/4≠i->hle (l.getD ((j-1)/4) default) (l.getD j default))/\ ∀j,0<j->j<l.length->(j-1)/4=i->0<i->hle (l.getD ((i-1)/4) default) (l.getD j default)
theorem dn_done{l:List Hd}{i:Nat}(h:rI l i)(c: ∀j,0<j->j<l.length->(j-1)/4=i->hle (l.getD i default) (l.getD j default)):kH l:=by
 intro j a b
 by_cases e:(j-1)/4=i
 . grind
 . exact h.1 j a b e
theorem dn_step{l:List Hd}{i b:Nat}(h:rI l i)(n:0<b)(a:b<l.length)(m:(b-1)/4=i)(o:hlt (l.getD b default) (l.getD i default))(p: ∀j,0<j->j<l.length->(j-1)/4=i->hle (l.getD b default) (l.getD j default)):rI (sw l i b) b:=by
 have d:i<l.length:=by omega
 refine⟨fun j e c f=>?_,fun j e c f _=>?_⟩
 . rw [gk]at c
   rw [ij l d a,ij l d a,if_neg f]
   by_cases g:(j-1)/4=i
   . rw [if_pos g]
     by_cases k:j=b
     . rw [if_pos k];exact qU o
     grind
   . rw [if_neg g]
     by_cases k:j=b
     . omega
     . rw [if_neg k]
       by_cases e3:j=i
       . subst e3;rw [if_pos rfl];exact h.2 b n a m e
       . rw [if_neg e3];exact h.1 j e c g
 . rw [gk]at c
   rw [ij l d a,ij l d a,m,if_neg (show¬i=b by omega),if_pos rfl,if_neg (show¬j=b by omega),if_neg (show¬j=i by omega)]
   have:=h.1 j e c (by omega)
   rwa [f]at this
theorem heap_min{l:List Hd}(h:kH l): ∀j,j<l.length->hle (l.getD 0 default) (l.getD j default):=by
 intro j
 induction j using Nat.strongRecOn with
 | _ j a=>
   intro b
   by_cases e:j=0
   . subst e;exact tE _
   . exact jm (a ((j-1)/4) (by omega) (by omega)) (h j (by omega) b)
theorem lV(l m:List Hd){j:Nat}(a:j<l.length):(l++m).getD j default=l.getD j default:=by
 grind
theorem v7{l:List Hd}(h:kH l)(x:Hd):qy (l++[x]) l.length:=by
 refine⟨fun j a b c=>?_,fun j a b c _=>?_⟩
 . simp at b
   rw [lV l _ (by omega),lV l _ (by omega)]
   exact h j a (by omega)
 grind
theorem Ai{l:List Hd}(h:kH l){i:Nat}{x:Hd}(k:hle x (l.getD i default)):qy (l.set i x) i:=by
 refine⟨fun j b a c=>?_,fun j b a c f=>?_⟩
 . rw [XI]at a
   rw [oZ,oZ,if_neg (show¬(i=j/\_)from fun e=>c e.1.symm)]
   split
   . rename_i e;have:=h j b a;grind[jm]
   . exact h j b a
 . rw [XI]at a
   rw [oZ,oZ,if_neg (show¬(i=j/\_) by omega),if_neg (show¬(i=(i-1)/4/\_) by omega)]
   have g:=h i f (by omega)
   have d:=h j b a
   rw [c]at d
   exact jm g d
theorem getD_take(l:List Hd){n j:Nat}(a:j<n):(l.take n).getD j default=l.getD j default:=by
 grind
theorem heap_pop{l:List Hd}(h:kH l)(d:0<l.length):rI ((sw l 0 (l.length-1)).take (l.length-1)) 0:=by
 refine⟨fun j a b c=>?_,fun j a b c e=>?_⟩
 . rw [List.length_take,gk]at b
   rw [getD_take _ (by omega),getD_take _ (by omega),ij l (by omega) (by omega),ij l (by omega) (by omega),if_neg (by omega),if_neg (by omega),if_neg (by omega),if_neg (by omega)]
   exact h j a (by omega)
 . omega
def gp(l:List Hd)(K:Nat->Option Int):Prop:=(l.map Hd.id).Nodup/\ ∀v k,K v=some k↔⟨v,k⟩∈l
def d9(K:Nat->Option Int)(v:Nat)(x:Option Int):Nat->Option Int:=fun u=>if u=v then x else K u
theorem gp.perm{l m:List Hd}{K:Nat->Option Int}(h:gp l K)(p:m.Perm l):gp m K:=
 ⟨(p.map Hd.id).nodup_iff.2 h.1,fun v k=>by rw [h.2];grind⟩
theorem gp.free{l:List Hd}{K:Nat->Option Int}(h:gp l K){v:Nat}(c:K v=none):v∉l.map Hd.id:=by
 intro a
 obtain⟨x,b,rfl⟩:=List.mem_map.1 a
 have:=(h.2 x.id x.key).2 b
 grind
theorem gp.push{l:List Hd}{K:Nat->Option Int}(h:gp l K){v:Nat}(d:K v=none)(k:Int):gp (l++[⟨v,k⟩]) (d9 K v (some k)):=by
 refine⟨?_,fun u x=>?_⟩
 . rw [List.map_append,XF]
   exact⟨h.1,by simp,fun a f b g e=>h.free d (by grind)⟩
 . unfold d9
   by_cases e:u=v
   . subst e
     rw [if_pos rfl,List.mem_append]
     constructor
     . grind
     . rintro(c|c)
       . have:=(h.2 u x).2 c;grind
       grind
   . rw [if_neg e,List.mem_append,h.2]
     grind
theorem nodup_idx{l:List Hd}(h:(l.map Hd.id).Nodup){i j:Nat}(a:i<l.length)(b:j<l.length)(e:(l.getD i default).id=(l.getD j default).id):i=j:=by
 refine pj h (x:=(l.getD i default).id) (by simp [a]) ?_
 grind
theorem gp.lower{l:List Hd}{K:Nat->Option Int}(h:gp l K){i:Nat}(f:i<l.length)(k:Int):gp (l.set i ⟨(l.getD i default).id,k⟩) (d9 K (l.getD i default).id (some k)):=by
 have g:(l.set i ⟨(l.getD i default).id,k⟩).map Hd.id=l.map Hd.id:=by
  rw [List.map_set]
  refine Xt fun j=>?_
  grind
 refine⟨by rw [g];exact h.1,fun u x=>?_⟩
 unfold d9
 by_cases e:u=(l.getD i default).id
 . rw [if_pos e]
   constructor
   . intro m;cases m;subst e;exact List.mem_iff_getElem?.2 ⟨i,by simp [f]⟩
   . intro b
     obtain⟨j,a⟩:=List.mem_iff_getElem?.1 b
     rw [XE]at a
     split at a
     . cases a;rfl
     . rename_i c
       have d:=(List.getElem?_eq_some_iff.1 a).1
       exact absurd (nodup_idx h.1 f d (by grind)) c
 . rw [if_neg e,h.2]
   constructor
   . intro b
     obtain⟨j,a⟩:=List.mem_iff_getElem?.1 b
     refine List.mem_iff_getElem?.2 ⟨j,?_⟩
     grind
   grind
theorem gp.pop{l:List Hd}{K:Nat->Option Int}(h:gp l K)(b:0<l.length):gp ((sw l 0 (l.length-1)).take (l.length-1)) (d9 K (l.getD 0 default).id none):=by
 have p:=rX l (i:=0) (k:=l.length-1) b (by omega)
 have c:=h.perm p
 have e:sw l 0 (l.length-1)=(sw l 0 (l.length-1)).take (l.length-1)++[l.getD 0 default]:=by
  refine Xt fun j=>?_
  have g:=ij l (i:=0) (k:=l.length-1) b (by omega) (l.length-1)
  rw [if_pos rfl]at g
  grind[gk,Xj,List.getElem?_take_of_lt,Xh,XO]
 generalize(sw l 0 (l.length-1)).take (l.length-1)=m at*
 generalize l.getD 0 default=x at*
 rw [e]at c
 obtain⟨a,o⟩:=c
 rw [List.map_append,XF]at a
 refine⟨a.1,fun v k=>?_⟩
 unfold d9
 by_cases d:v=x.id
 . rw [if_pos d]
   constructor
   . intro h;cases h
   . intro n
     exact absurd d (a.2.2 v (List.mem_map_of_mem (f:=Hd.id) n) x.id (by simp))
 grind
theorem gp.at{l:List Hd}{K:Nat->Option Int}(h:gp l K){i:Nat}(a:i<l.length):K (l.getD i default).id=some (l.getD i default).key:=
 (h.2 _ _).2 (List.mem_iff_getElem?.2 ⟨i,by simp [a]⟩)
theorem gp.idx{l:List Hd}{K:Nat->Option Int}(h:gp l K){v:Nat}{k:Int}(a:K v=some k): ∃i,i<l.length/\l.getD i default=⟨v,k⟩:=by
 obtain⟨i,b⟩:=List.mem_iff_getElem?.1 ((h.2 v k).1 a)
 grind
theorem gp.nil{K:Nat->Option Int}(h:gp [] K)(v:Nat):K v=none:=by
 cases a:K v with
 |none=>rfl
 |some k=>have:=(h.2 v k).1 a;cases this
theorem cont_nil:gp [] (fun _=>none):=⟨.nil,fun v k=>by grind⟩
end Go.Ab

end
section
namespace Go.Ab
def FAR:Nat:=72057594037927936
def WMAX:Nat:=2147483647
theorem FAR_eq:FAR=72057594037927936:=rfl
theorem WMAX_eq:WMAX=2147483647:=rfl
inductive Wk(B:List Arc)(s:Nat):Nat->Nat->Prop where
 |nil:Wk B s s 0
 |snoc {w:Nat} {a:Arc}:a∈B->Wk B s a.s w->Wk B s a.t (w+a.w)
def IsD(B:List Arc)(s v x:Nat):Prop:=(x<FAR/\Wk B s v x/\ ∀w,Wk B s v w->x<=w)\/(x=FAR/\ ∀w,¬Wk B s v w)
theorem IsD.uniq{B:List Arc}{s v x y:Nat}(h:IsD B s v x)(k:IsD B s v y):x=y:=by
 rcases h with⟨a,b,c⟩|⟨a,b⟩<;>rcases k with⟨d,e,f⟩|⟨d,e⟩
 . have:=c _ e;have:=f _ b;omega
 . exact absurd b (e _)
 . exact absurd e (b _)
 . omega
theorem IsD.le{B:List Arc}{s v x:Nat}(h:IsD B s v x):x<=FAR:=by
 rcases h with⟨a,_,_⟩|⟨a,_⟩<;>omega
theorem IsD.arc{B:List Arc}{s x y:Nat}{a:Arc}(c:a∈B)(f:IsD B s a.s x)(d:IsD B s a.t y):y<=x+a.w:=by
 rcases f with⟨g,b,j⟩|⟨g,b⟩
 . rcases d with⟨h,e,i⟩|⟨h,e⟩
   . exact i _ (.snoc c b)
   . exact absurd (.snoc c b) (e _)
 . have:=d.le;omega
theorem sV: ∀(N:Nat) (l:List Nat),l.Nodup->(∀x∈l,x<N)->l.length<=N
 | 0,l,_,h=>by
   cases l with
   |nil=>simp
   |cons x l=>have:=h x (by simp);omega
 | N+1,l,b,h=>by
   have f:=sV N (l.erase N) (b.erase N) (fun x c=>by
    have d:=h x (List.mem_of_mem_erase c)
    have g:x≠N:=fun e=>by subst e;exact(List.Nodup.not_mem_erase b) c
    omega)
   have d:=List.length_erase (a:=N) (l:=l)
   split at d<;>omega

section
variable{B:List Arc}{s N:Nat}{O:List Nat}{D:Nat->Nat}{K:Nat->Option Int}{ex:Arc->Prop}
structure Dj(B:List Arc)(s N:Nat)(O:List Nat)(D:Nat->Nat)(K:Nat->Option Int)(ex:Arc->Prop):Prop where
 i1: ∀v,v∈O->K v=none
 i2: ∀v∈O,Wk B s v (D v)/\(∀w,Wk B s v w->D v<=w)/\D v<=O.length*WMAX
 i2f: ∀v,v∉O->D v=FAR
 i3: ∀v k,K v=some k->v<N/\ ∃n:Nat,k=n/\Wk B s v n/\n<=O.length*WMAX
 i4: ∀a∈B,a.s∈O-> ¬ex a->a.t∈O\/ ∃k:Int,K a.t=some k/\k<=D a.s+a.w
 i5:s∈O\/K s=some 0
 nd:O.Nodup
 lt: ∀v∈O,v<N
theorem Dj.len(d:Dj B s N O D K ex):O.length<=N:=sV N O d.nd d.lt
theorem dj_init(b:s<N):Dj B s N [] (fun _=>FAR) (d9 (fun _=>none) s (some 0)) (fun _=>False):=by
 refine⟨fun v h=>(by cases h),fun v h=>(by cases h),fun v _=>rfl,fun v k h=>?_,fun a _ h=>(by cases h),.inr (by simp [d9]),.nil,fun v h=>(by cases h)⟩
 unfold d9 at h
 split at h
 . rename_i e;cases h;subst e;exact⟨b,0,rfl,.nil,by simp⟩
 . cases h
theorem Dj.front(d:Dj B s N O D K (fun _=>False)){x w:Nat}(h:Wk B s x w):x∈O\/ ∃y k,K y=some k/\k<=(w:Int):=by
 induction h with
 |nil=>exact d.i5.imp (fun h=>h) (fun h=>⟨_,_,h,by omega⟩)
 | @snoc w a e f b=>
   rcases b with b|⟨y,k,c,g⟩
   . rcases d.i4 a e b (fun h=>h)with h|⟨k,c,g⟩
     . exact .inl h
     . have:=(d.i2 _ b).2.1 _ f
       exact .inr ⟨_,k,c,by omega⟩
   . exact .inr ⟨y,k,c,by omega⟩
theorem Dj.pop(d:Dj B s N O D K (fun _=>False)){v:Nat}{n:Nat}(q:K v=some (n:Int))(A: ∀u k,K u=some k->(n:Int)<=k):
 Dj B s N (O++[v]) (fun u=>if u=v then n else D u) (d9 K v none) (fun a=>a.s=v)/\v∉O/\v<N/\n<=O.length*WMAX:=by
 have g:v∉O:=fun h=>by have:=d.i1 v h;rw [q]at this;cases this
 obtain⟨i,C,e,E,l⟩:=d.i3 v _ q
 have e:n=C:=by omega
 subst e
 have r:(O++[v]).length*WMAX=O.length*WMAX+WMAX:=by rw [Xn,XM,Nat.succ_mul]
 refine⟨⟨fun u f=>?_,fun u f=>?_,fun u f=>?_,fun u k f=>?_,fun a o t x=>?_,?_,?_,fun u f=>?_⟩,g,i,l⟩
 . unfold d9
   by_cases e:u=v
   . rw [if_pos e]
   . rw [if_neg e];simp [e]at f;exact d.i1 u f
 . rw [r]
   by_cases e:u=v
   . subst e
     simp only [if_true]
     refine⟨E,fun w h=>?_,by omega⟩
     rcases d.front h with j|⟨y,k,j,z⟩
     . exact absurd j g
     . have:=A y k j;omega
   . simp only [e,if_false]
     simp [e]at f
     obtain⟨a,b,c⟩:=d.i2 u f
     exact⟨a,b,by omega⟩
 . simp at f
   simp only [f.2,if_false]
   exact d.i2f u f.1
 . unfold d9 at f
   split at f
   . cases f
   . obtain⟨a,m,b,c,e⟩:=d.i3 u k f
     exact⟨a,m,b,c,by rw [r];omega⟩
 . simp [x]at t
   have p: ¬a.s=v:=x
   simp only [p,if_false]
   rcases d.i4 a o t (fun h=>h)with h|⟨k,j,z⟩
   . exact .inl (by simp [h])
   . by_cases e:a.t=v
     . exact .inl (by simp [e])
     . exact .inr ⟨k,by unfold d9;rw [if_neg e];exact j,z⟩
 . rcases d.i5 with h|h
   . exact .inl (by simp [h])
   . by_cases e:s=v
     . exact .inl (by simp [e])
     . exact .inr (by unfold d9;rw [if_neg e];exact h)
 . rw [XF]
   exact⟨d.nd,by simp,fun a o b l e=>g (by simp at l;subst l;subst e;exact o)⟩
 . rcases List.mem_append.1 f with h|h
   . exact d.lt u h
   . simp at h;subst h;exact i
def iA(O:List Nat)(K:Nat->Option Int)(u:Nat)(x:Int):Nat->Option Int:=if u∈O then K else match K u with
 |some k=>if k<=x then K else d9 K u (some x)
 |none=>d9 K u (some x)
theorem Dj.relaxed (d:Dj B s N O D K ex) {ex':Arc->Prop} {a:Arc} (t:a∈B) (u:a.s∈O) (w:a.t<N) (m:D a.s+a.w<=O.length*WMAX) (x: ∀b∈B,¬ex' b-> ¬ex b\/b=a):
 Dj B s N O D (iA O K a.t ((D a.s+a.w:Nat):Int)) ex':=by
 have f: ∀i,(∀v,v∈O->i v=K v)->(∀v k,i v=some k->K v=some k\/(v=a.t/\k=((D a.s+a.w:Nat):Int)))->(∀v k,K v=some k-> ∃j,i v=some j/\j<=k)->(a.t∈O\/ ∃k:Int,i a.t=some k/\k<=D a.s+a.w)->Dj B s N O D i ex':=by
  intro i y q r z
  refine⟨fun v c=>by rw [y v c];exact d.i1 v c,d.i2,d.i2f,fun v k g=>?_,fun b m n o=>?_,?_,d.nd,d.lt⟩
  . rcases q v k g with h|⟨rfl,rfl⟩
    . exact d.i3 v k h
    . exact⟨w,_,rfl,.snoc t (d.i2 _ u).1,m⟩
  . rcases x b m o with h|rfl
    . rcases d.i4 b m n h with h|⟨k,A,E⟩
      . exact .inl h
      . obtain⟨j,l,C⟩:=r _ _ A
        exact .inr ⟨j,l,by omega⟩
    . exact z
  . rcases d.i5 with h|h
    . exact .inl h
    . obtain⟨j,l,C⟩:=r _ _ h
      rcases q _ _ l with p|⟨p,F⟩
      . rw [h]at p;exact .inr (by rw [l,p])
      . exact .inr (by rw [l];congr 1;omega)
 unfold iA
 by_cases h:a.t∈O
 . rw [if_pos h];exact f K (fun _ _=>rfl) (fun _ _ h=>.inl h) (fun v k h=>⟨k,h,by omega⟩) (.inl h)
 . rw [if_neg h]
   have upd:(∀k,K a.t=some k->((D a.s+a.w:Nat):Int)<=k)->Dj B s N O D (d9 K a.t (some ((D a.s+a.w:Nat):Int))) ex':=fun g=>by
    refine f _ (fun v c=>?_) (fun v k c=>?_) (fun v k c=>?_) (.inr ⟨((D a.s+a.w:Nat):Int),by unfold d9;rw [if_pos rfl],by omega⟩)
    . unfold d9;rw [if_neg (fun e=>h (by subst e;exact c))]
    . unfold d9 at c
      split at c
      . rename_i e;cases c;exact .inr ⟨e,rfl⟩
      . exact .inl c
    . unfold d9
      by_cases e:v=a.t
      . rw [if_pos e];subst e;exact⟨_,rfl,g k c⟩
      . rw [if_neg e];exact⟨k,c,by omega⟩
   cases g:K a.t with
   |none=>simp only [];exact upd (fun k e=>by rw [g]at e;cases e)
   | some k=>
     simp only []
     split
     . rename_i hle
       exact f K (fun _ _=>rfl) (fun _ _ h=>.inl h) (fun v k h=>⟨k,h,by omega⟩) (.inr ⟨k,g,by omega⟩)
     . rename_i hle
       exact upd (fun j e=>by rw [g]at e;cases e;omega)
theorem Dj.done(d:Dj B s N O D K (fun _=>False))(f: ∀v,K v=none)(g:N<=12)(v:Nat):IsD B s v (D v):=by
 have j:=Nat.mul_le_mul_right WMAX (Xl d.len g)
 have:=FAR_eq
 have:=WMAX_eq
 by_cases h:v∈O
 . obtain⟨a,b,c⟩:=d.i2 v h
   exact .inl ⟨by omega,a,b⟩
 . refine .inr ⟨d.i2f v h,fun w i=>?_⟩
   rcases d.front i with e|⟨y,k,e,_⟩
   . exact h e
   . rw [f]at e;cases e
end
theorem qm{A:List Arc}{f:Arc->Nat}{j v i:Nat}:i∈outs A f j v↔i<j/\f (A.getD i default)=v:=by
 unfold outs
 rw [List.mem_filter,XK,decide_eq_true_eq]
def cG(a:Arc):Arc:=⟨a.t,a.s,a.w⟩

structure Ls(B:List Arc)(s N:Nat)(l:Nat->Nat):Prop where
 le: ∀v,l v<=FAR
 wk: ∀v,l v=FAR\/Wk B s v (l v)
 s0:l s=0
def fd(l:Nat->Nat)(v x:Nat):Nat->Nat:=fun u=>if u=v then x else l u
theorem Ls.step{B:List Arc}{s N:Nat}{l:Nat->Nat}(h:Ls B s N l){a:Arc}(b:a∈B)(f:l a.s<FAR)(c:l a.s+a.w<l a.t):Ls B s N (fd l a.t (l a.s+a.w)):=by
 have d:=(h.wk a.s).resolve_left (by omega)
 refine⟨fun v=>?_,fun v=>?_,?_⟩
 . unfold fd;split
   . have:=h.le a.t;omega
   . exact h.le v
 . unfold fd;split
   . rename_i e;subst e;exact .inr (.snoc b d)
   . exact h.wk v
 . unfold fd;split
   . rename_i e;rw [<-e,h.s0]at c;omega
   . exact h.s0
end Go.Ab

end

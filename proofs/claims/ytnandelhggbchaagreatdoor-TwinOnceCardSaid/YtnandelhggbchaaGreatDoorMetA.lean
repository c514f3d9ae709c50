/- Nets, cells, flags: what the functions do (part 1). -/
import Derived.Test.YtnandelhggbchaaGreatDoorMnv
open Go.Ab.Tryz
open Go.Ab.Tryz renaming abEnv->zM
open List renaming getD_eq_getElem?_getD->zN,mem_of_getElem?->Xb,getElem?_append_right->Xc,nodup_append->Xd,getElem?_append_left->Xe,mem_map_of_mem->Xf,map_append->Xi,range->Xk,length_take->Xm,ext_getElem?->Xo,getElem?_set->Xp,getElem?_map->Xq,getElem?_replicate->Xr,length_set->Xs,map_cons->Xt,length_cons->Xv,getElem?_eq_getElem->Xx,mem_cons->Xy,length_append->Xz,replicate->XB,take->XC,drop->XD,not_mem_nil->XE,take_succ_cons->XH,length_flatMap->XI,nodup_cons->XJ,getElem_mem->XL,length_replicate->XN,getElem?_append->XO,map_const'->XP,take_zero->XQ,drop_zero->XR,drop_eq_getElem_cons->XU,filter_cons->XV,getElem?_take_of_lt->XW,range_succ->X6,mem_append->X7,length_nil->X8,getElem?_eq_none->Ya,mem_range->Yb,flatMap_eq_foldl->Yd,flatMap_append->Yf,drop_succ_cons->Yg
open And renaming intro->Xa
open Prod renaming fst->Xg
open Nat renaming ble_eq_true_of_le->Xh,zero_add->Xl,zero_mul->Xn,mul_one->Xu,le_trans->Xw,beq->XA,le_refl->XF,one_mul->XG,ble->XM,lt_of_succ_le->XT,beq_refl->XX,add_zero->XY,min_eq_left->X9,eq_of_beq_eq_true->Yc,blt_eq->Ye,sub_zero->Yh
open Int renaming cast_ofNat_Int->Xj,tmod_eq_emod_of_nonneg->XS
open Option renaming isSome_none->XK,getD_some->XZ
set_option maxHeartbeats 4000000
set_option linter.defProp false
set_option linter.unusedVariables false
set_option linter.unusedSimpArgs false
section
namespace Go.Ab
theorem Si{h:Hp}(a:h.t.Sized h.n):St NoM h h [] []:=St.init a
theorem aj{a b:Prop}(x:a)(y:b):a/\b:=⟨x,y⟩
set_option linter.defProp false in
def LC:=Xa @List.set_cons_zero.{0}<|Xa @List.set_cons_succ.{0}<|Xa @List.cons_append.{0}<|Xa @List.nil_append.{0}<|Xa @List.append_nil.{0}<|Xa @List.length_cons.{0}<|Xa @List.length_nil.{0}<|@Nat.add_zero
theorem lbt{a b:Nat}(h:XM a b=true):a<=b:=Nat.le_of_ble_eq_true h
theorem ono:(1:Nat)≠0:=Nat.one_ne_zero
set_option linter.defProp false in
def LB:=Xa @if_true.{1}<|Xa @if_false.{1}<|Xa @eq_self.{1}<|Xa @List.map_cons.{0,0}<|Xa @List.map_nil.{0,0}<|Xa @List.append_nil.{0}<|Xa @List.nil_append.{0}<|Xa @List.cons_append.{0}<|Xa @List.getElem?_cons_zero.{0}<|Xa @List.getElem?_cons_succ.{0}<|Xa @List.set_cons_zero.{0}<|Xa @List.set_cons_succ.{0}<|Xa @List.length_cons.{0}<|Xa @List.length_nil.{0}<|Xa @Nat.add_zero<|Xa @Nat.zero_add<|Xa @Nat.mul_one<|Xa @Nat.zero_mul<|Xa @cond_true.{1}<|Xa @cond_false.{1}<|Xa @decide_true<|Xa @decide_false<|Xa @Bool.and_true<|Xa @Bool.and_false<|Xa @Bool.not_false<|Xa @Bool.not_true<|Xa @true_and<|Xa @and_true<|Xa @Option.isSome_some.{0}<|@List.map_toArray.{0,0}
open Go.Proofs
namespace Tryz
abbrev TQ0(i:TypeId)(A:Bool)(S:Nat)(Z:List Value):Prop:=zM.agg i=some A/\zM.sz i=some S/\zM.zero i=some Z/\dD zM i=some false
theorem kTQ0{i:TypeId}{A:Bool}{S:Nat}{Z:List Value}(h:(zM.agg i,zM.sz i,zM.zero i,dD zM i)=(some A,some S,some Z,some false)):TQ0 i A S Z:=by simpa only [Prod.mk.injEq]using h
abbrev TQ1(i:TypeId)(U:TypeDesc)(A:Bool)(S:Nat)(Z:List Value):Prop:=zM.und i=some U/\zM.agg i=some A/\zM.sz i=some S/\zM.zero i=some Z/\jM zM i=true
theorem kTQ1{i:TypeId}{U:TypeDesc}{A:Bool}{S:Nat}{Z:List Value}(h:(zM.und i,zM.agg i,zM.sz i,zM.zero i,jM zM i)=(some U,some A,some S,some Z,true)):TQ1 i U A S Z:=by simpa only [Prod.mk.injEq]using h
abbrev TQ2(i:TypeId)(U:TypeDesc)(A:Bool)(S:Nat)(Z:List Value):Prop:=zM.und i=some U/\zM.agg i=some A/\zM.sz i=some S/\zM.zero i=some Z/\dD zM i=some false
theorem kTQ2{i:TypeId}{U:TypeDesc}{A:Bool}{S:Nat}{Z:List Value}(h:(zM.und i,zM.agg i,zM.sz i,zM.zero i,dD zM i)=(some U,some A,some S,some Z,some false)):TQ2 i U A S Z:=by simpa only [Prod.mk.injEq]using h
abbrev TQ3(i:TypeId)(A:Bool)(S:Nat)(Z:List Value)(P:List (Nat×Nat)):Prop:=zM.agg i=some A/\zM.sz i=some S/\zM.zero i=some Z/\jM zM i=true/\dD zM i=some false/\placesOf zM i=some P
theorem kTQ3{i:TypeId}{A:Bool}{S:Nat}{Z:List Value}{P:List (Nat×Nat)}(h:(zM.agg i,zM.sz i,zM.zero i,jM zM i,dD zM i,placesOf zM i)=(some A,some S,some Z,true,some false,some P)):TQ3 i A S Z P:=by simpa only [Prod.mk.injEq]using h
abbrev TQ4(i:TypeId)(U:TypeDesc)(A:Bool)(S:Nat)(Z:List Value):Prop:=zM.und i=some U/\zM.agg i=some A/\zM.sz i=some S/\zM.zero i=some Z/\pq zM i=true/\jM zM i=true/\dD zM i=some false
theorem kTQ4{i:TypeId}{U:TypeDesc}{A:Bool}{S:Nat}{Z:List Value}(h:(zM.und i,zM.agg i,zM.sz i,zM.zero i,pq zM i,jM zM i,dD zM i)=(some U,some A,some S,some Z,true,true,some false)):TQ4 i U A S Z:=by simpa only [Prod.mk.injEq]using h
abbrev TQ5(i:TypeId)(A:Bool)(S:Nat)(Z:List Value):Prop:=zM.agg i=some A/\zM.sz i=some S/\zM.zero i=some Z/\isIface zM i=true/\dD zM i=some false
theorem kTQ5{i:TypeId}{A:Bool}{S:Nat}{Z:List Value}(h:(zM.agg i,zM.sz i,zM.zero i,isIface zM i,dD zM i)=(some A,some S,some Z,true,some false)):TQ5 i A S Z:=by simpa only [Prod.mk.injEq]using h
abbrev TQ6(i:TypeId)(U:TypeDesc)(A:Bool)(S:Nat)(Z:List Value):Prop:=zM.und i=some U/\zM.agg i=some A/\zM.sz i=some S/\zM.zero i=some Z/\isSl zM i=true/\dD zM i=some false
theorem kTQ6{i:TypeId}{U:TypeDesc}{A:Bool}{S:Nat}{Z:List Value}(h:(zM.und i,zM.agg i,zM.sz i,zM.zero i,isSl zM i,dD zM i)=(some U,some A,some S,some Z,true,some false)):TQ6 i U A S Z:=by simpa only [Prod.mk.injEq]using h
abbrev TQ7(i:TypeId)(A:Bool)(S:Nat)(Z:List Value):Prop:=zM.agg i=some A/\zM.sz i=some S/\zM.zero i=some Z/\jM zM i=true/\dD zM i=some false
theorem kTQ7{i:TypeId}{A:Bool}{S:Nat}{Z:List Value}(h:(zM.agg i,zM.sz i,zM.zero i,jM zM i,dD zM i)=(some A,some S,some Z,true,some false)):TQ7 i A S Z:=by simpa only [Prod.mk.injEq]using h
abbrev TR0(i:TypeId)(f o1 o2 o3:Nat):Prop:=(∀(b o:Nat) (s:Option Nat),aw zM i (.pointer (some ⟨b,o,s⟩)) 0=some (.pointer (some ⟨b,o+f,none⟩))/\aw zM i (.pointer (some ⟨b,o,s⟩)) 1=some (.pointer (some ⟨b,o+o1,none⟩))/\aw zM i (.pointer (some ⟨b,o,s⟩)) 2=some (.pointer (some ⟨b,o+o2,none⟩))/\aw zM i (.pointer (some ⟨b,o,s⟩)) 3=some (.pointer (some ⟨b,o+o3,none⟩)))/\ ∀a c d e:Value,aQ zM i (.agg ⟨[a,c,d,e]⟩) 0=some a/\aQ zM i (.agg ⟨[a,c,d,e]⟩) 1=some c/\aQ zM i (.agg ⟨[a,c,d,e]⟩) 2=some d/\aQ zM i (.agg ⟨[a,c,d,e]⟩) 3=some e
abbrev TR1(i:TypeId)(d o1:Nat):Prop:=(∀(b o:Nat) (s:Option Nat),aw zM i (.pointer (some ⟨b,o,s⟩)) 0=some (.pointer (some ⟨b,o+d,none⟩))/\aw zM i (.pointer (some ⟨b,o,s⟩)) 1=some (.pointer (some ⟨b,o+o1,none⟩)))/\ ∀a c:Value,aQ zM i (.agg ⟨[a,c]⟩) 0=some a/\aQ zM i (.agg ⟨[a,c]⟩) 1=some c
abbrev TR2(i:TypeId)(c:Nat):Prop:=(∀(b o:Nat) (s:Option Nat),aw zM i (.pointer (some ⟨b,o,s⟩)) 0=some (.pointer (some ⟨b,o+c,none⟩)))/\ ∀a:Value,aQ zM i (.agg ⟨[a]⟩) 0=some a
abbrev TR3(i:TypeId)(h o1 o2 o3 j k:Nat):Prop:=(∀(b o:Nat) (s:Option Nat),aw zM i (.pointer (some ⟨b,o,s⟩)) 0=some (.pointer (some ⟨b,o+h,none⟩))/\aw zM i (.pointer (some ⟨b,o,s⟩)) 1=some (.pointer (some ⟨b,o+o1,none⟩))/\aw zM i (.pointer (some ⟨b,o,s⟩)) 2=some (.pointer (some ⟨b,o+o2,none⟩))/\aw zM i (.pointer (some ⟨b,o,s⟩)) 3=some (.pointer (some ⟨b,o+o3,none⟩))/\aw zM i (.pointer (some ⟨b,o,s⟩)) 4=some (.pointer (some ⟨b,o+j,none⟩))/\aw zM i (.pointer (some ⟨b,o,s⟩)) 5=some (.pointer (some ⟨b,o+k,none⟩)))/\ ∀a c d e f g:Value,aQ zM i (.agg ⟨[a,c,d,e,f,g]⟩) 0=some a/\aQ zM i (.agg ⟨[a,c,d,e,f,g]⟩) 1=some c/\aQ zM i (.agg ⟨[a,c,d,e,f,g]⟩) 2=some d/\aQ zM i (.agg ⟨[a,c,d,e,f,g]⟩) 3=some e/\aQ zM i (.agg ⟨[a,c,d,e,f,g]⟩) 4=some f/\aQ zM i (.agg ⟨[a,c,d,e,f,g]⟩) 5=some g
abbrev TR4(i:TypeId)(e o1 o2:Nat):Prop:=(∀(b o:Nat) (s:Option Nat),aw zM i (.pointer (some ⟨b,o,s⟩)) 0=some (.pointer (some ⟨b,o+e,none⟩))/\aw zM i (.pointer (some ⟨b,o,s⟩)) 1=some (.pointer (some ⟨b,o+o1,none⟩))/\aw zM i (.pointer (some ⟨b,o,s⟩)) 2=some (.pointer (some ⟨b,o+o2,none⟩)))/\ ∀a c d:Value,aQ zM i (.agg ⟨[a,c,d]⟩) 0=some a/\aQ zM i (.agg ⟨[a,c,d]⟩) 1=some c/\aQ zM i (.agg ⟨[a,c,d]⟩) 2=some d
abbrev TR5(i:TypeId)(h o1 o2:Nat):Prop:=(∀(b o:Nat) (s:Option Nat),aw zM i (.pointer (some ⟨b,o,s⟩)) 0=some (.pointer (some ⟨b,o+h,none⟩))/\aw zM i (.pointer (some ⟨b,o,s⟩)) 1=some (.pointer (some ⟨b,o+o1,none⟩))/\aw zM i (.pointer (some ⟨b,o,s⟩)) 2=some (.pointer (some ⟨b,o+o2,none⟩)))/\ ∀a c d e f g:Value,aQ zM i (.agg ⟨[a,c,d,e,f,g]⟩) 0=some (.agg ⟨[a,c,d,e]⟩)/\aQ zM i (.agg ⟨[a,c,d,e,f,g]⟩) 1=some f/\aQ zM i (.agg ⟨[a,c,d,e,f,g]⟩) 2=some g
abbrev TR6(i:TypeId)(p o1 o2 o3 q r t u v w n:Nat):Prop:=(∀(b o:Nat) (s:Option Nat),aw zM i (.pointer (some ⟨b,o,s⟩)) 0=some (.pointer (some ⟨b,o+p,none⟩))/\aw zM i (.pointer (some ⟨b,o,s⟩)) 1=some (.pointer (some ⟨b,o+o1,none⟩))/\aw zM i (.pointer (some ⟨b,o,s⟩)) 2=some (.pointer (some ⟨b,o+o2,none⟩))/\aw zM i (.pointer (some ⟨b,o,s⟩)) 3=some (.pointer (some ⟨b,o+o3,none⟩))/\aw zM i (.pointer (some ⟨b,o,s⟩)) 4=some (.pointer (some ⟨b,o+q,none⟩))/\aw zM i (.pointer (some ⟨b,o,s⟩)) 5=some (.pointer (some ⟨b,o+r,none⟩))/\aw zM i (.pointer (some ⟨b,o,s⟩)) 6=some (.pointer (some ⟨b,o+t,none⟩))/\aw zM i (.pointer (some ⟨b,o,s⟩)) 7=some (.pointer (some ⟨b,o+u,none⟩))/\aw zM i (.pointer (some ⟨b,o,s⟩)) 8=some (.pointer (some ⟨b,o+v,none⟩))/\aw zM i (.pointer (some ⟨b,o,s⟩)) 9=some (.pointer (some ⟨b,o+w,none⟩))/\aw zM i (.pointer (some ⟨b,o,s⟩)) 10=some (.pointer (some ⟨b,o+n,none⟩)))/\ ∀c d e f g h j k l m a:Value,aQ zM i (.agg ⟨[c,d,e,f,g,h,j,k,l,m,a]⟩) 0=some c/\aQ zM i (.agg ⟨[c,d,e,f,g,h,j,k,l,m,a]⟩) 1=some d/\aQ zM i (.agg ⟨[c,d,e,f,g,h,j,k,l,m,a]⟩) 2=some e/\aQ zM i (.agg ⟨[c,d,e,f,g,h,j,k,l,m,a]⟩) 3=some f/\aQ zM i (.agg ⟨[c,d,e,f,g,h,j,k,l,m,a]⟩) 4=some g/\aQ zM i (.agg ⟨[c,d,e,f,g,h,j,k,l,m,a]⟩) 5=some h/\aQ zM i (.agg ⟨[c,d,e,f,g,h,j,k,l,m,a]⟩) 6=some j/\aQ zM i (.agg ⟨[c,d,e,f,g,h,j,k,l,m,a]⟩) 7=some k/\aQ zM i (.agg ⟨[c,d,e,f,g,h,j,k,l,m,a]⟩) 8=some l/\aQ zM i (.agg ⟨[c,d,e,f,g,h,j,k,l,m,a]⟩) 9=some m/\aQ zM i (.agg ⟨[c,d,e,f,g,h,j,k,l,m,a]⟩) 10=some a
abbrev TR7(i:TypeId)(n o1 o2 o3 p:Nat):Prop:=(∀(b o:Nat) (s:Option Nat),aw zM i (.pointer (some ⟨b,o,s⟩)) 0=some (.pointer (some ⟨b,o+n,none⟩))/\aw zM i (.pointer (some ⟨b,o,s⟩)) 1=some (.pointer (some ⟨b,o+o1,none⟩))/\aw zM i (.pointer (some ⟨b,o,s⟩)) 2=some (.pointer (some ⟨b,o+o2,none⟩))/\aw zM i (.pointer (some ⟨b,o,s⟩)) 3=some (.pointer (some ⟨b,o+o3,none⟩))/\aw zM i (.pointer (some ⟨b,o,s⟩)) 4=some (.pointer (some ⟨b,o+p,none⟩)))/\ ∀c d e f g h j k l m a:Value,aQ zM i (.agg ⟨[c,d,e,f,g,h,j,k,l,m,a]⟩) 0=some c/\aQ zM i (.agg ⟨[c,d,e,f,g,h,j,k,l,m,a]⟩) 1=some (.agg ⟨[d,e,f,g]⟩)/\aQ zM i (.agg ⟨[c,d,e,f,g,h,j,k,l,m,a]⟩) 2=some (.agg ⟨[h,j]⟩)/\aQ zM i (.agg ⟨[c,d,e,f,g,h,j,k,l,m,a]⟩) 3=some (.agg ⟨[k,l,m]⟩)/\aQ zM i (.agg ⟨[c,d,e,f,g,h,j,k,l,m,a]⟩) 4=some a
abbrev TR8(i:TypeId)(k o1 o2 o3 l m n p:Nat):Prop:=(∀(b o:Nat) (s:Option Nat),aw zM i (.pointer (some ⟨b,o,s⟩)) 0=some (.pointer (some ⟨b,o+k,none⟩))/\aw zM i (.pointer (some ⟨b,o,s⟩)) 1=some (.pointer (some ⟨b,o+o1,none⟩))/\aw zM i (.pointer (some ⟨b,o,s⟩)) 2=some (.pointer (some ⟨b,o+o2,none⟩))/\aw zM i (.pointer (some ⟨b,o,s⟩)) 3=some (.pointer (some ⟨b,o+o3,none⟩))/\aw zM i (.pointer (some ⟨b,o,s⟩)) 4=some (.pointer (some ⟨b,o+l,none⟩))/\aw zM i (.pointer (some ⟨b,o,s⟩)) 5=some (.pointer (some ⟨b,o+m,none⟩))/\aw zM i (.pointer (some ⟨b,o,s⟩)) 6=some (.pointer (some ⟨b,o+n,none⟩))/\aw zM i (.pointer (some ⟨b,o,s⟩)) 7=some (.pointer (some ⟨b,o+p,none⟩)))/\ ∀a c d e f g h j:Value,aQ zM i (.agg ⟨[a,c,d,e,f,g,h,j]⟩) 0=some a/\aQ zM i (.agg ⟨[a,c,d,e,f,g,h,j]⟩) 1=some c/\aQ zM i (.agg ⟨[a,c,d,e,f,g,h,j]⟩) 2=some d/\aQ zM i (.agg ⟨[a,c,d,e,f,g,h,j]⟩) 3=some e/\aQ zM i (.agg ⟨[a,c,d,e,f,g,h,j]⟩) 4=some f/\aQ zM i (.agg ⟨[a,c,d,e,f,g,h,j]⟩) 5=some g/\aQ zM i (.agg ⟨[a,c,d,e,f,g,h,j]⟩) 6=some h/\aQ zM i (.agg ⟨[a,c,d,e,f,g,h,j]⟩) 7=some j
abbrev TR9(i:TypeId)(e o1:Nat):Prop:=(∀(b o:Nat) (s:Option Nat),aw zM i (.pointer (some ⟨b,o,s⟩)) 0=some (.pointer (some ⟨b,o+e,none⟩))/\aw zM i (.pointer (some ⟨b,o,s⟩)) 1=some (.pointer (some ⟨b,o+o1,none⟩)))/\ ∀a c d:Value,aQ zM i (.agg ⟨[a,c,d]⟩) 0=some (.agg ⟨[a,c]⟩)/\aQ zM i (.agg ⟨[a,c,d]⟩) 1=some d
abbrev TR10(i:TypeId)(g o1 o2:Nat):Prop:=(∀(b o:Nat) (s:Option Nat),aw zM i (.pointer (some ⟨b,o,s⟩)) 0=some (.pointer (some ⟨b,o+g,none⟩))/\aw zM i (.pointer (some ⟨b,o,s⟩)) 1=some (.pointer (some ⟨b,o+o1,none⟩))/\aw zM i (.pointer (some ⟨b,o,s⟩)) 2=some (.pointer (some ⟨b,o+o2,none⟩)))/\ ∀a c d e f:Value,aQ zM i (.agg ⟨[a,c,d,e,f]⟩) 0=some a/\aQ zM i (.agg ⟨[a,c,d,e,f]⟩) 1=some (.agg ⟨[c,d,e]⟩)/\aQ zM i (.agg ⟨[a,c,d,e,f]⟩) 2=some f
theorem t1:TQ0 1 false 1 [.nilFunc]:=kTQ0 (by kernel_rfl)
theorem t2:TQ1 2 (.int .i64) false 1 [.int .i64 0]:=kTQ1 (by kernel_rfl)
theorem e2E:eS zM 2 8 1 [.int .i64 0]:=⟨⟨_,rfl,by kernel_rfl,by kernel_rfl⟩,t2.2.2.2.1,rfl⟩
theorem t3:TQ1 3 (.int .i64) false 1 [.int .i64 0]:=kTQ1 (by kernel_rfl)
theorem e3E:eS zM 3 8 1 [.int .i64 0]:=⟨⟨_,rfl,by kernel_rfl,by kernel_rfl⟩,t3.2.2.2.1,rfl⟩
theorem t4:TQ2 4 .bool false 1 [.bool false]:=kTQ2 (by kernel_rfl)
theorem t5:TQ1 5 (.int .u8) false 1 [.int .u8 0]:=kTQ1 (by kernel_rfl)
theorem t6:TQ1 6 (.int .u8) false 1 [.int .u8 0]:=kTQ1 (by kernel_rfl)
theorem t7:TQ3 7 true 4 [.int .i64 0,.int .i64 0,.bool false,.int .u8 0] [(0,1),(1,1),(2,1),(3,1)]:=kTQ3 (by kernel_rfl)
theorem r7:TR0 7 0 1 2 3:=⟨fun _ _ _=>⟨rfl,rfl,rfl,rfl⟩,fun _ _ _ _=>⟨rfl,rfl,rfl,rfl⟩⟩
theorem t8:TQ3 8 true 4 [.int .i64 0,.int .i64 0,.bool false,.int .u8 0] [(0,1),(1,1),(2,1),(3,1)]:=kTQ3 (by kernel_rfl)
theorem r8:TR0 8 0 1 2 3:=⟨fun _ _ _=>⟨rfl,rfl,rfl,rfl⟩,fun _ _ _ _=>⟨rfl,rfl,rfl,rfl⟩⟩
theorem t9:TQ2 9 .string false 1 [.string ⟨#[]⟩]:=kTQ2 (by kernel_rfl)
theorem t10:TQ2 10 .string false 1 [.string ⟨#[]⟩]:=kTQ2 (by kernel_rfl)
theorem t11:TQ2 11 .string false 1 [.string ⟨#[]⟩]:=kTQ2 (by kernel_rfl)
theorem t12:TQ1 12 (.int .u64) false 1 [.int .u64 0]:=kTQ1 (by kernel_rfl)
theorem t13:TQ3 13 true 2 [.string ⟨#[]⟩,.int .u64 0] [(0,1),(1,1)]:=kTQ3 (by kernel_rfl)
theorem r13:TR1 13 0 1:=⟨fun _ _ _=>⟨rfl,rfl⟩,fun _ _=>⟨rfl,rfl⟩⟩
theorem t14:TQ3 14 true 2 [.string ⟨#[]⟩,.int .u64 0] [(0,1),(1,1)]:=kTQ3 (by kernel_rfl)
theorem r14:TR1 14 0 1:=⟨fun _ _ _=>⟨rfl,rfl⟩,fun _ _=>⟨rfl,rfl⟩⟩
theorem t15:TQ4 15 (.pointer 371) false 1 [.pointer none]:=kTQ4 (by kernel_rfl)
theorem t16:TQ4 16 (.pointer 374) false 1 [.pointer none]:=kTQ4 (by kernel_rfl)
theorem t17:TQ4 17 (.pointer 381) false 1 [.pointer none]:=kTQ4 (by kernel_rfl)
theorem t18:TQ3 18 true 1 [.pointer none] [(0,1)]:=kTQ3 (by kernel_rfl)
theorem r18:TR2 18 0:=⟨fun _ _ _=>rfl,fun _=>rfl⟩
theorem t19:TQ3 19 true 1 [.pointer none] [(0,1)]:=kTQ3 (by kernel_rfl)
theorem r19:TR2 19 0:=⟨fun _ _ _=>rfl,fun _=>rfl⟩
theorem t20:TQ5 20 false 1 [.nilIface]:=kTQ5 (by kernel_rfl)
theorem t21:TQ1 21 (.int .i32) false 1 [.int .i32 0]:=kTQ1 (by kernel_rfl)
theorem t22:TQ6 22 (.slice 5) false 1 [.slice none 0 0]:=kTQ6 (by kernel_rfl)
theorem t23:TQ1 23 (.int .i8) false 1 [.int .i8 0]:=kTQ1 (by kernel_rfl)
theorem t24:TQ6 24 (.slice 2) false 1 [.slice none 0 0]:=kTQ6 (by kernel_rfl)
theorem e24E:eS zM 24 24 1 [.slice none 0 0]:=⟨⟨_,rfl,by kernel_rfl,by kernel_rfl⟩,t24.2.2.2.1,rfl⟩
theorem t26:TQ3 26 true 6 [.slice none 0 0,.slice none 0 0,.int .u8 0,.int .u8 0,.int .i8 0,.slice none 0 0] [(0,1),(1,1),(2,1),(3,1),(4,1),(5,1)]:=kTQ3 (by kernel_rfl)
theorem r26:TR3 26 0 1 2 3 4 5:=⟨fun _ _ _=>⟨rfl,rfl,rfl,rfl,rfl,rfl⟩,fun _ _ _ _ _ _=>⟨rfl,rfl,rfl,rfl,rfl,rfl⟩⟩
theorem t28:TQ3 28 true 4 [.int .i64 0,.int .i64 0,.int .i64 0,.int .i64 0] [(0,1),(1,1),(2,1),(3,1)]:=kTQ3 (by kernel_rfl)
theorem r28:TR0 28 0 1 2 3:=⟨fun _ _ _=>⟨rfl,rfl,rfl,rfl⟩,fun _ _ _ _=>⟨rfl,rfl,rfl,rfl⟩⟩
theorem t29:TQ6 29 (.slice 99) false 1 [.slice none 0 0]:=kTQ6 (by kernel_rfl)
theorem t31:TQ3 31 true 4 [.int .i64 0,.slice none 0 0,.slice none 0 0,.slice none 0 0] [(0,1),(1,1),(2,1),(3,1)]:=kTQ3 (by kernel_rfl)
theorem r31:TR0 31 0 1 2 3:=⟨fun _ _ _=>⟨rfl,rfl,rfl,rfl⟩,fun _ _ _ _=>⟨rfl,rfl,rfl,rfl⟩⟩
theorem t32:TQ4 32 (.pointer 191) false 1 [.pointer none]:=kTQ4 (by kernel_rfl)
theorem t33:TQ6 33 (.slice 3) false 1 [.slice none 0 0]:=kTQ6 (by kernel_rfl)
theorem e33E:eS zM 33 24 1 [.slice none 0 0]:=⟨⟨_,rfl,by kernel_rfl,by kernel_rfl⟩,t33.2.2.2.1,rfl⟩
theorem t36:TQ4 36 (.pointer 38) false 1 [.pointer none]:=kTQ4 (by kernel_rfl)
theorem t38:TQ3 38 true 2 [.slice none 0 0,.int .i64 0] [(0,1),(1,1)]:=kTQ3 (by kernel_rfl)
theorem r38:TR1 38 0 1:=⟨fun _ _ _=>⟨rfl,rfl⟩,fun _ _=>⟨rfl,rfl⟩⟩
theorem t41:TQ5 41 false 1 [.nilIface]:=kTQ5 (by kernel_rfl)
theorem t45:TQ1 45 (.int .i64) false 1 [.int .i64 0]:=kTQ1 (by kernel_rfl)
theorem t47:TQ3 47 true 4 [.int .i64 0,.int .i64 0,.slice none 0 0,.slice none 0 0] [(0,1),(1,1),(2,1),(3,1)]:=kTQ3 (by kernel_rfl)
theorem r47:TR0 47 0 1 2 3:=⟨fun _ _ _=>⟨rfl,rfl,rfl,rfl⟩,fun _ _ _ _=>⟨rfl,rfl,rfl,rfl⟩⟩
theorem t48:TQ6 48 (.slice 94) false 1 [.slice none 0 0]:=kTQ6 (by kernel_rfl)
theorem t51:TQ4 51 (.pointer 131) false 1 [.pointer none]:=kTQ4 (by kernel_rfl)
theorem t59:TQ6 59 (.slice 24) false 1 [.slice none 0 0]:=kTQ6 (by kernel_rfl)
theorem t94:TQ3 94 true 4 [.int .i64 0,.int .i64 0,.int .i64 0,.int .i64 0] [(0,1),(1,1),(2,1),(3,1)]:=kTQ3 (by kernel_rfl)
theorem r94:TR0 94 0 1 2 3:=⟨fun _ _ _=>⟨rfl,rfl,rfl,rfl⟩,fun _ _ _ _=>⟨rfl,rfl,rfl,rfl⟩⟩
theorem e94E:eS zM 94 32 4 [.int .i64 0,.int .i64 0,.int .i64 0,.int .i64 0]:=⟨⟨_,rfl,by kernel_rfl,by kernel_rfl⟩,t94.2.2.1,rfl⟩
theorem t99:TQ3 99 true 3 [.int .i64 0,.int .i64 0,.int .i64 0] [(0,1),(1,1),(2,1)]:=kTQ3 (by kernel_rfl)
theorem r99:TR4 99 0 1 2:=⟨fun _ _ _=>⟨rfl,rfl,rfl⟩,fun _ _ _=>⟨rfl,rfl,rfl⟩⟩
theorem e99E:eS zM 99 24 3 [.int .i64 0,.int .i64 0,.int .i64 0]:=⟨⟨_,rfl,by kernel_rfl,by kernel_rfl⟩,t99.2.2.1,rfl⟩
theorem t131:TQ3 131 true 4 [.int .i64 0,.slice none 0 0,.slice none 0 0,.slice none 0 0] [(0,1),(1,1),(2,1),(3,1)]:=kTQ3 (by kernel_rfl)
theorem r131:TR0 131 0 1 2 3:=⟨fun _ _ _=>⟨rfl,rfl,rfl,rfl⟩,fun _ _ _ _=>⟨rfl,rfl,rfl,rfl⟩⟩
theorem t181:TQ4 181 (.pointer 5) false 1 [.pointer none]:=kTQ4 (by kernel_rfl)
theorem t189:TQ6 189 (.slice 33) false 1 [.slice none 0 0]:=kTQ6 (by kernel_rfl)
theorem t191:TQ3 191 true 6 [.int .i64 0,.slice none 0 0,.slice none 0 0,.slice none 0 0,.slice none 0 0,.slice none 0 0] [(0,4),(4,1),(5,1)]:=kTQ3 (by kernel_rfl)
theorem r191:TR5 191 0 4 5:=⟨fun _ _ _=>⟨rfl,rfl,rfl⟩,fun _ _ _ _ _ _=>⟨rfl,rfl,rfl⟩⟩
theorem t271:TQ1 271 (.int .u8) false 1 [.int .u8 0]:=kTQ1 (by kernel_rfl)
theorem t358:TQ1 358 (.int .u32) false 1 [.int .u32 0]:=kTQ1 (by kernel_rfl)
theorem t371:TQ3 371 true 4 [.pointer none,.pointer none,.pointer none,.string ⟨#[]⟩] [(0,1),(1,1),(2,1),(3,1)]:=kTQ3 (by kernel_rfl)
theorem r371:TR0 371 0 1 2 3:=⟨fun _ _ _=>⟨rfl,rfl,rfl,rfl⟩,fun _ _ _ _=>⟨rfl,rfl,rfl,rfl⟩⟩
theorem t372:TQ2 372 (.array 0 16) true 0 []:=kTQ2 (by kernel_rfl)
theorem t374:TQ7 374 true 0 []:=kTQ7 (by kernel_rfl)
theorem t376:TQ1 376 (.int .u8) false 1 [.int .u8 0]:=kTQ1 (by kernel_rfl)
theorem t377:TQ0 377 false 1 [.nilFunc]:=kTQ0 (by kernel_rfl)
theorem t378:TQ1 378 (.int .i32) false 1 [.int .i32 0]:=kTQ1 (by kernel_rfl)
theorem t379:TQ1 379 (.int .i32) false 1 [.int .i32 0]:=kTQ1 (by kernel_rfl)
theorem t381:TQ3 381 true 11 [.int .u64 0,.int .u64 0,.int .u32 0,.int .u8 0,.int .u8 0,.int .u8 0,.int .u8 0,.nilFunc,.pointer none,.int .i32 0,.int .i32 0] [(0,1),(1,1),(2,1),(3,1),(4,1),(5,1),(6,1),(7,1),(8,1),(9,1),(10,1)]:=kTQ3 (by kernel_rfl)
theorem r381:TR6 381 0 1 2 3 4 5 6 7 8 9 10:=⟨fun _ _ _=>⟨rfl,rfl,rfl,rfl,rfl,rfl,rfl,rfl,rfl,rfl,rfl⟩,fun _ _ _ _ _ _ _ _ _ _ _=>⟨rfl,rfl,rfl,rfl,rfl,rfl,rfl,rfl,rfl,rfl,rfl⟩⟩
theorem t69:TQ2 69 (.array 2 51) true 2 [.pointer none,.pointer none]:=kTQ2 (by kernel_rfl)
theorem e5:zM.fn 5=some Tryz.f5:=by kernel_rfl
theorem t74:TQ6 74 (.slice 4) false 1 [.slice none 0 0]:=kTQ6 (by kernel_rfl)
theorem e8:zM.fn 8=some Tryz.f8:=by kernel_rfl
theorem e9:zM.fn 9=some Tryz.f9:=by kernel_rfl
theorem t102:TQ3 102 true 4 [.int .i64 0,.int .i64 0,.int .i64 0,.int .i64 0] [(0,1),(1,1),(2,1),(3,1)]:=kTQ3 (by kernel_rfl)
theorem r102:TR0 102 0 1 2 3:=⟨fun _ _ _=>⟨rfl,rfl,rfl,rfl⟩,fun _ _ _ _=>⟨rfl,rfl,rfl,rfl⟩⟩
theorem t104:TQ4 104 (.pointer 102) false 1 [.pointer none]:=kTQ4 (by kernel_rfl)
theorem t106:TQ3 106 true 1 [.pointer none] [(0,1)]:=kTQ3 (by kernel_rfl)
theorem r106:TR2 106 0:=⟨fun _ _ _=>rfl,fun _=>rfl⟩
theorem e10:zM.fn 10=some Tryz.f10:=by kernel_rfl
theorem t114:TQ3 114 true 3 [.int .i64 0,.slice none 0 0,.slice none 0 0] [(0,1),(1,1),(2,1)]:=kTQ3 (by kernel_rfl)
theorem r114:TR4 114 0 1 2:=⟨fun _ _ _=>⟨rfl,rfl,rfl⟩,fun _ _ _=>⟨rfl,rfl,rfl⟩⟩
theorem t120:TQ3 120 true 4 [.int .i64 0,.int .i64 0,.slice none 0 0,.slice none 0 0] [(0,1),(1,1),(2,1),(3,1)]:=kTQ3 (by kernel_rfl)
theorem r120:TR0 120 0 1 2 3:=⟨fun _ _ _=>⟨rfl,rfl,rfl,rfl⟩,fun _ _ _ _=>⟨rfl,rfl,rfl,rfl⟩⟩
theorem e11:zM.fn 11=some Tryz.f11:=by kernel_rfl
theorem t127:TQ0 127 false 1 [.nilFunc]:=kTQ0 (by kernel_rfl)
theorem t129:TQ0 129 false 1 [.nilFunc]:=kTQ0 (by kernel_rfl)
theorem e12:zM.fn 12=some Tryz.f12:=by kernel_rfl
theorem t138:TQ0 138 false 1 [.nilFunc]:=kTQ0 (by kernel_rfl)
theorem t140:TQ0 140 false 1 [.nilFunc]:=kTQ0 (by kernel_rfl)
theorem e19:zM.fn 19=some Tryz.f19:=by kernel_rfl
theorem t142:TQ1 142 (.int .u64) false 1 [.int .u64 0]:=kTQ1 (by kernel_rfl)
theorem t147:TQ0 147 false 1 [.nilFunc]:=kTQ0 (by kernel_rfl)
theorem e22:zM.fn 22=some Tryz.f22:=by kernel_rfl
theorem t149:TQ0 149 false 1 [.nilFunc]:=kTQ0 (by kernel_rfl)
theorem t151:TQ2 151 (.map 153 3) false 1 [.map none]:=kTQ2 (by kernel_rfl)
theorem t153:TQ2 153 (.array 3 3) true 3 [.int .i64 0,.int .i64 0,.int .i64 0]:=kTQ2 (by kernel_rfl)
theorem e23:zM.fn 23=some Tryz.f23:=by kernel_rfl
theorem e24:zM.fn 24=some Tryz.f24:=by kernel_rfl
theorem t154:TQ2 154 (.array 2 59) true 2 [.slice none 0 0,.slice none 0 0]:=kTQ2 (by kernel_rfl)
theorem e25:zM.fn 25=some Tryz.f25:=by kernel_rfl
theorem t155:TQ2 155 (.array 2 3) true 2 [.int .i64 0,.int .i64 0]:=kTQ2 (by kernel_rfl)
theorem e26:zM.fn 26=some Tryz.f26:=by kernel_rfl
theorem e27:zM.fn 27=some Tryz.f27:=by kernel_rfl
theorem e28:zM.fn 28=some Tryz.f28:=by kernel_rfl
theorem t161:TQ0 161 false 1 [.nilFunc]:=kTQ0 (by kernel_rfl)
theorem e29:zM.fn 29=some Tryz.f29:=by kernel_rfl
theorem e41:zM.fn 41=some Tryz.f41:=by kernel_rfl
theorem e42:zM.fn 42=some Tryz.f42:=by kernel_rfl
theorem e43:zM.fn 43=some Tryz.f43:=by kernel_rfl
theorem t192:TQ0 192 false 1 [.nilFunc]:=kTQ0 (by kernel_rfl)
theorem t193:TQ0 193 false 1 [.nilFunc]:=kTQ0 (by kernel_rfl)
theorem e45:zM.fn 45=some Tryz.f45:=by kernel_rfl
theorem e46:zM.fn 46=some Tryz.f46:=by kernel_rfl
theorem t110:TQ3 110 true 1 [.int .i64 0] [(0,1)]:=kTQ3 (by kernel_rfl)
theorem r110:TR2 110 0:=⟨fun _ _ _=>rfl,fun _=>rfl⟩
theorem e47:zM.fn 47=some Tryz.f47:=by kernel_rfl
theorem t196:TQ0 196 false 1 [.nilFunc]:=kTQ0 (by kernel_rfl)
theorem t197:TQ2 197 (.array 4 1) true 4 [.nilFunc,.nilFunc,.nilFunc,.nilFunc]:=kTQ2 (by kernel_rfl)
theorem e48:zM.fn 48=some Tryz.f48:=by kernel_rfl
theorem e49:zM.fn 49=some Tryz.f49:=by kernel_rfl
theorem t58:TQ0 58 false 1 [.nilFunc]:=kTQ0 (by kernel_rfl)
theorem t199:TQ4 199 (.pointer 203) false 1 [.pointer none]:=kTQ4 (by kernel_rfl)
theorem t200:TQ4 200 (.pointer 279) false 1 [.pointer none]:=kTQ4 (by kernel_rfl)
theorem t201:TQ2 201 (.array 2 200) true 2 [.pointer none,.pointer none]:=kTQ2 (by kernel_rfl)
theorem t203:TQ3 203 true 11 [.pointer none,.int .i64 0,.int .i64 0,.slice none 0 0,.slice none 0 0,.pointer none,.pointer none,.int .i64 0,.slice none 0 0,.slice none 0 0,.int .i64 0] [(0,1),(1,4),(5,2),(7,3),(10,1)]:=kTQ3 (by kernel_rfl)
theorem r203:TR7 203 0 1 5 7 10:=⟨fun _ _ _=>⟨rfl,rfl,rfl,rfl,rfl⟩,fun _ _ _ _ _ _ _ _ _ _ _=>⟨rfl,rfl,rfl,rfl,rfl⟩⟩
theorem t218:TQ2 218 (.map 3 3) false 1 [.map none]:=kTQ2 (by kernel_rfl)
theorem t275:TQ4 275 (.pointer 341) false 1 [.pointer none]:=kTQ4 (by kernel_rfl)
theorem t277:TQ2 277 (.map 3 2) false 1 [.map none]:=kTQ2 (by kernel_rfl)
theorem t279:TQ3 279 true 8 [.pointer none,.int .i64 0,.int .i64 0,.nilFunc,.nilFunc,.map none,.map none,.map none] [(0,1),(1,1),(2,1),(3,1),(4,1),(5,1),(6,1),(7,1)]:=kTQ3 (by kernel_rfl)
theorem r279:TR8 279 0 1 2 3 4 5 6 7:=⟨fun _ _ _=>⟨rfl,rfl,rfl,rfl,rfl,rfl,rfl,rfl⟩,fun _ _ _ _ _ _ _ _=>⟨rfl,rfl,rfl,rfl,rfl,rfl,rfl,rfl⟩⟩
theorem e50:zM.fn 50=some Tryz.f50:=by kernel_rfl
theorem t213:TQ0 213 false 1 [.nilFunc]:=kTQ0 (by kernel_rfl)
theorem t217:TQ0 217 false 1 [.nilFunc]:=kTQ0 (by kernel_rfl)
theorem e51:zM.fn 51=some Tryz.f51:=by kernel_rfl
theorem e52:zM.fn 52=some Tryz.f52:=by kernel_rfl
theorem e53:zM.fn 53=some Tryz.f53:=by kernel_rfl
theorem e54:zM.fn 54=some Tryz.f54:=by kernel_rfl
theorem e55:zM.fn 55=some Tryz.f55:=by kernel_rfl
theorem e56:zM.fn 56=some Tryz.f56:=by kernel_rfl
theorem e57:zM.fn 57=some Tryz.f57:=by kernel_rfl
theorem t222:TQ3 222 true 3 [.slice none 0 0,.slice none 0 0,.slice none 0 0] [(0,1),(1,1),(2,1)]:=kTQ3 (by kernel_rfl)
theorem r222:TR4 222 0 1 2:=⟨fun _ _ _=>⟨rfl,rfl,rfl⟩,fun _ _ _=>⟨rfl,rfl,rfl⟩⟩
theorem e58:zM.fn 58=some Tryz.f58:=by kernel_rfl
theorem e59:zM.fn 59=some Tryz.f59:=by kernel_rfl
theorem t137:TQ0 137 false 1 [.nilFunc]:=kTQ0 (by kernel_rfl)
theorem e65:zM.fn 65=some Tryz.f65:=by kernel_rfl
theorem e66:zM.fn 66=some Tryz.f66:=by kernel_rfl
theorem e67:zM.fn 67=some Tryz.f67:=by kernel_rfl
theorem e68:zM.fn 68=some Tryz.f68:=by kernel_rfl
theorem e69:zM.fn 69=some Tryz.f69:=by kernel_rfl
theorem e70:zM.fn 70=some Tryz.f70:=by kernel_rfl
theorem e74:zM.fn 74=some Tryz.f74:=by kernel_rfl
theorem e75:zM.fn 75=some Tryz.f75:=by kernel_rfl
theorem e76:zM.fn 76=some Tryz.f76:=by kernel_rfl
theorem e77:zM.fn 77=some Tryz.f77:=by kernel_rfl
theorem e78:zM.fn 78=some Tryz.f78:=by kernel_rfl
theorem e79:zM.fn 79=some Tryz.f79:=by kernel_rfl
theorem e80:zM.fn 80=some Tryz.f80:=by kernel_rfl
theorem e81:zM.fn 81=some Tryz.f81:=by kernel_rfl
theorem e82:zM.fn 82=some Tryz.f82:=by kernel_rfl
theorem e83:zM.fn 83=some Tryz.f83:=by kernel_rfl
theorem e84:zM.fn 84=some Tryz.f84:=by kernel_rfl
theorem t215:TQ0 215 false 1 [.nilFunc]:=kTQ0 (by kernel_rfl)
theorem t246:TQ0 246 false 1 [.nilFunc]:=kTQ0 (by kernel_rfl)
theorem e85:zM.fn 85=some Tryz.f85:=by kernel_rfl
theorem t250:TQ0 250 false 1 [.nilFunc]:=kTQ0 (by kernel_rfl)
theorem t183:TQ3 183 true 1 [.pointer none] [(0,1)]:=kTQ3 (by kernel_rfl)
theorem r183:TR2 183 0:=⟨fun _ _ _=>rfl,fun _=>rfl⟩
theorem e99:zM.fn 99=some Tryz.f99:=by kernel_rfl
theorem t256:TQ0 256 false 1 [.nilFunc]:=kTQ0 (by kernel_rfl)
theorem t258:TQ0 258 false 1 [.nilFunc]:=kTQ0 (by kernel_rfl)
theorem e258E:eS zM 258 8 1 [.nilFunc]:=⟨⟨_,rfl,by kernel_rfl,by kernel_rfl⟩,t258.2.2.1,rfl⟩
theorem t260:TQ6 260 (.slice 258) false 1 [.slice none 0 0]:=kTQ6 (by kernel_rfl)
theorem t262:TQ3 262 true 6 [.int .i64 0,.int .i64 0,.int .i64 0,.int .i64 0,.int .i64 0,.int .i64 0] [(0,1),(1,1),(2,1),(3,1),(4,1),(5,1)]:=kTQ3 (by kernel_rfl)
theorem r262:TR3 262 0 1 2 3 4 5:=⟨fun _ _ _=>⟨rfl,rfl,rfl,rfl,rfl,rfl⟩,fun _ _ _ _ _ _=>⟨rfl,rfl,rfl,rfl,rfl,rfl⟩⟩
theorem e262E:eS zM 262 48 6 [.int .i64 0,.int .i64 0,.int .i64 0,.int .i64 0,.int .i64 0,.int .i64 0]:=⟨⟨_,rfl,by kernel_rfl,by kernel_rfl⟩,t262.2.2.1,rfl⟩
theorem e100:zM.fn 100=some Tryz.f100:=by kernel_rfl
theorem e102:zM.fn 102=some Tryz.f102:=by kernel_rfl
theorem e103:zM.fn 103=some Tryz.f103:=by kernel_rfl
theorem e104:zM.fn 104=some Tryz.f104:=by kernel_rfl
theorem e105:zM.fn 105=some Tryz.f105:=by kernel_rfl
theorem e106:zM.fn 106=some Tryz.f106:=by kernel_rfl
theorem e107:zM.fn 107=some Tryz.f107:=by kernel_rfl
theorem e108:zM.fn 108=some Tryz.f108:=by kernel_rfl
theorem e109:zM.fn 109=some Tryz.f109:=by kernel_rfl
theorem e110:zM.fn 110=some Tryz.f110:=by kernel_rfl
theorem e111:zM.fn 111=some Tryz.f111:=by kernel_rfl
theorem e112:zM.fn 112=some Tryz.f112:=by kernel_rfl
theorem t95:TQ0 95 false 1 [.nilFunc]:=kTQ0 (by kernel_rfl)
theorem e113:zM.fn 113=some Tryz.f113:=by kernel_rfl
theorem t339:TQ3 339 true 2 [.slice none 0 0,.map none] [(0,1),(1,1)]:=kTQ3 (by kernel_rfl)
theorem r339:TR1 339 0 1:=⟨fun _ _ _=>⟨rfl,rfl⟩,fun _ _=>⟨rfl,rfl⟩⟩
theorem t341:TQ3 341 true 3 [.slice none 0 0,.map none,.int .i64 0] [(0,2),(2,1)]:=kTQ3 (by kernel_rfl)
theorem r341:TR9 341 0 2:=⟨fun _ _ _=>⟨rfl,rfl⟩,fun _ _ _=>⟨rfl,rfl⟩⟩
theorem e114:zM.fn 114=some Tryz.f114:=by kernel_rfl
theorem e115:zM.fn 115=some Tryz.f115:=by kernel_rfl
theorem e116:zM.fn 116=some Tryz.f116:=by kernel_rfl
theorem e117:zM.fn 117=some Tryz.f117:=by kernel_rfl
theorem e118:zM.fn 118=some Tryz.f118:=by kernel_rfl
theorem e119:zM.fn 119=some Tryz.f119:=by kernel_rfl
theorem e120:zM.fn 120=some Tryz.f120:=by kernel_rfl
theorem e121:zM.fn 121=some Tryz.f121:=by kernel_rfl
theorem t288:TQ0 288 false 1 [.nilFunc]:=kTQ0 (by kernel_rfl)
theorem e122:zM.fn 122=some Tryz.f122:=by kernel_rfl
theorem e123:zM.fn 123=some Tryz.f123:=by kernel_rfl
theorem e124:zM.fn 124=some Tryz.f124:=by kernel_rfl
theorem e125:zM.fn 125=some Tryz.f125:=by kernel_rfl
theorem e126:zM.fn 126=some Tryz.f126:=by kernel_rfl
theorem e127:zM.fn 127=some Tryz.f127:=by kernel_rfl
theorem e128:zM.fn 128=some Tryz.f128:=by kernel_rfl
theorem e129:zM.fn 129=some Tryz.f129:=by kernel_rfl
theorem e130:zM.fn 130=some Tryz.f130:=by kernel_rfl
theorem e131:zM.fn 131=some Tryz.f131:=by kernel_rfl
theorem e132:zM.fn 132=some Tryz.f132:=by kernel_rfl
theorem e133:zM.fn 133=some Tryz.f133:=by kernel_rfl
theorem t101:TQ3 101 true 4 [.int .i64 0,.int .i64 0,.int .i64 0,.int .i64 0] [(0,1),(1,1),(2,1),(3,1)]:=kTQ3 (by kernel_rfl)
theorem r101:TR0 101 0 1 2 3:=⟨fun _ _ _=>⟨rfl,rfl,rfl,rfl⟩,fun _ _ _ _=>⟨rfl,rfl,rfl,rfl⟩⟩
theorem t292:TQ4 292 (.pointer 296) false 1 [.pointer none]:=kTQ4 (by kernel_rfl)
theorem t296:TQ3 296 true 5 [.pointer none,.slice none 0 0,.slice none 0 0,.slice none 0 0,.map none] [(0,1),(1,3),(4,1)]:=kTQ3 (by kernel_rfl)
theorem r296:TR10 296 0 1 4:=⟨fun _ _ _=>⟨rfl,rfl,rfl⟩,fun _ _ _ _ _=>⟨rfl,rfl,rfl⟩⟩
theorem t298:TQ0 298 false 1 [.nilFunc]:=kTQ0 (by kernel_rfl)
theorem e134:zM.fn 134=some Tryz.f134:=by kernel_rfl
theorem e135:zM.fn 135=some Tryz.f135:=by kernel_rfl
theorem e136:zM.fn 136=some Tryz.f136:=by kernel_rfl
theorem e140:zM.fn 140=some Tryz.f140:=by kernel_rfl
theorem e141:zM.fn 141=some Tryz.f141:=by kernel_rfl
theorem e149:zM.fn 149=some Tryz.f149:=by kernel_rfl
theorem t240:TQ0 240 false 1 [.nilFunc]:=kTQ0 (by kernel_rfl)
theorem e154:zM.fn 154=some Tryz.f154:=by kernel_rfl
theorem e155:zM.fn 155=some Tryz.f155:=by kernel_rfl
theorem e156:zM.fn 156=some Tryz.f156:=by kernel_rfl
theorem e157:zM.fn 157=some Tryz.f157:=by kernel_rfl
theorem e158:zM.fn 158=some Tryz.f158:=by kernel_rfl
theorem e159:zM.fn 159=some Tryz.f159:=by kernel_rfl
theorem e160:zM.fn 160=some Tryz.f160:=by kernel_rfl
theorem t312:TQ0 312 false 1 [.nilFunc]:=kTQ0 (by kernel_rfl)
theorem e161:zM.fn 161=some Tryz.f161:=by kernel_rfl
theorem e162:zM.fn 162=some Tryz.f162:=by kernel_rfl
theorem e163:zM.fn 163=some Tryz.f163:=by kernel_rfl
theorem e164:zM.fn 164=some Tryz.f164:=by kernel_rfl
theorem e181:zM.fn 181=some Tryz.f181:=by kernel_rfl
theorem t321:TQ6 321 (.slice 262) false 1 [.slice none 0 0]:=kTQ6 (by kernel_rfl)
theorem e182:zM.fn 182=some Tryz.f182:=by kernel_rfl
theorem e183:zM.fn 183=some Tryz.f183:=by kernel_rfl
theorem e184:zM.fn 184=some Tryz.f184:=by kernel_rfl
theorem e185:zM.fn 185=some Tryz.f185:=by kernel_rfl
theorem e186:zM.fn 186=some Tryz.f186:=by kernel_rfl
theorem e187:zM.fn 187=some Tryz.f187:=by kernel_rfl
theorem e188:zM.fn 188=some Tryz.f188:=by kernel_rfl
theorem e189:zM.fn 189=some Tryz.f189:=by kernel_rfl
theorem e194:zM.fn 194=some Tryz.f194:=by kernel_rfl
theorem e195:zM.fn 195=some Tryz.f195:=by kernel_rfl
theorem t337:TQ6 337 (.slice 344) false 1 [.slice none 0 0]:=kTQ6 (by kernel_rfl)
theorem t344:TQ3 344 true 2 [.int .i64 0,.int .i64 0] [(0,1),(1,1)]:=kTQ3 (by kernel_rfl)
theorem r344:TR1 344 0 1:=⟨fun _ _ _=>⟨rfl,rfl⟩,fun _ _=>⟨rfl,rfl⟩⟩
theorem e344E:eS zM 344 16 2 [.int .i64 0,.int .i64 0]:=⟨⟨_,rfl,by kernel_rfl,by kernel_rfl⟩,t344.2.2.1,rfl⟩
theorem e196:zM.fn 196=some Tryz.f196:=by kernel_rfl
theorem e197:zM.fn 197=some Tryz.f197:=by kernel_rfl
theorem e198:zM.fn 198=some Tryz.f198:=by kernel_rfl
theorem e199:zM.fn 199=some Tryz.f199:=by kernel_rfl
theorem e200:zM.fn 200=some Tryz.f200:=by kernel_rfl
theorem e201:zM.fn 201=some Tryz.f201:=by kernel_rfl
theorem e202:zM.fn 202=some Tryz.f202:=by kernel_rfl
theorem e203:zM.fn 203=some Tryz.f203:=by kernel_rfl
theorem e204:zM.fn 204=some Tryz.f204:=by kernel_rfl
theorem e205:zM.fn 205=some Tryz.f205:=by kernel_rfl
theorem e206:zM.fn 206=some Tryz.f206:=by kernel_rfl
theorem e207:zM.fn 207=some Tryz.f207:=by kernel_rfl
theorem e208:zM.fn 208=some Tryz.f208:=by kernel_rfl
theorem e209:zM.fn 209=some Tryz.f209:=by kernel_rfl
theorem e210:zM.fn 210=some Tryz.f210:=by kernel_rfl
theorem e211:zM.fn 211=some Tryz.f211:=by kernel_rfl
theorem e212:zM.fn 212=some Tryz.f212:=by kernel_rfl
theorem e213:zM.fn 213=some Tryz.f213:=by kernel_rfl
theorem e221:zM.fn 221=some Tryz.f221:=by kernel_rfl
theorem e222:zM.fn 222=some Tryz.f222:=by kernel_rfl
theorem e223:zM.fn 223=some Tryz.f223:=by kernel_rfl
theorem e224:zM.fn 224=some Tryz.f224:=by kernel_rfl
theorem e225:zM.fn 225=some Tryz.f225:=by kernel_rfl
theorem e239:zM.fn 239=some Tryz.f239:=by kernel_rfl
theorem t322:TQ0 322 false 1 [.nilFunc]:=kTQ0 (by kernel_rfl)
theorem e240:zM.fn 240=some Tryz.f240:=by kernel_rfl
theorem e241:zM.fn 241=some Tryz.f241:=by kernel_rfl
theorem t357:TQ4 357 (.pointer 339) false 1 [.pointer none]:=kTQ4 (by kernel_rfl)
theorem e245:zM.fn 245=some Tryz.f245:=by kernel_rfl
theorem e246:zM.fn 246=some Tryz.f246:=by kernel_rfl
theorem e247:zM.fn 247=some Tryz.f247:=by kernel_rfl
theorem e248:zM.fn 248=some Tryz.f248:=by kernel_rfl
theorem e249:zM.fn 249=some Tryz.f249:=by kernel_rfl
theorem e250:zM.fn 250=some Tryz.f250:=by kernel_rfl
theorem t350:TQ0 350 false 1 [.nilFunc]:=kTQ0 (by kernel_rfl)
theorem e251:zM.fn 251=some Tryz.f251:=by kernel_rfl
theorem e252:zM.fn 252=some Tryz.f252:=by kernel_rfl
theorem e255:zM.fn 255=some Tryz.f255:=by kernel_rfl
theorem e264:zM.fn 264=some Tryz.f264:=by kernel_rfl
theorem e265:zM.fn 265=some Tryz.f265:=by kernel_rfl
theorem e266:zM.fn 266=some Tryz.f266:=by kernel_rfl
theorem e267:zM.fn 267=some Tryz.f267:=by kernel_rfl
theorem e269:zM.fn 269=some Tryz.f269:=by kernel_rfl
theorem e276:zM.fn 276=some Tryz.f276:=by kernel_rfl
theorem e277:zM.fn 277=some Tryz.f277:=by kernel_rfl
theorem e278:zM.fn 278=some Tryz.f278:=by kernel_rfl
theorem e283:zM.fn 283=some Tryz.f283:=by kernel_rfl
end Tryz
end Go.Ab

end
section
namespace Go.Ab
section
variable(A:List Arc)(f:Arc->Nat)
def outs(j v:Nat):List Nat:=(Xk j).filter fun i=>decide (f (A.getD i default)=v)
def start:Nat->Nat
 |0=>0
 |v+1=>start v+(outs A f A.length v).length
theorem ig(j v:Nat):outs A f (j+1) v=outs A f j v++(if f (A.getD j default)=v then [j]else []):=by
 unfold outs
 rw [X6,List.filter_append]
 congr 1
 by_cases h:f (A.getD j default)=v
 . simp only [XV,List.filter_nil,h,decide_true,if_true]
 . simp only [XV,List.filter_nil,h,decide_false,if_false,Bool.false_eq_true]
theorem outs_pre{j k:Nat}(h:j<=k)(v:Nat): ∃l,outs A f k v=outs A f j v++l:=by
 induction k with
 | zero => have:j=0:=by omega
           subst this;exact⟨[],by simp⟩
 | succ k a=>
   by_cases b:j=k+1
   . subst b;exact⟨[],by simp⟩
   . obtain⟨l,c⟩:=a (by omega)
     exact⟨l++_,by rw [ig,c,List.append_assoc]⟩
theorem uZ{j k:Nat}(h:j<=k)(v:Nat):(outs A f j v).length<=(outs A f k v).length:=by
 obtain⟨l,a⟩:=outs_pre A f h v
 rw [a,Xz];omega
theorem start_eq (v:Nat):start A f v=((Xk A.length).filter fun i=>decide (f (A.getD i default)<v)).length:=by
 have e: ∀(l:List Nat) (v:Nat),(l.filter fun i=>decide (f (A.getD i default)<v+1)).length=(l.filter fun i=>decide (f (A.getD i default)<v)).length+(l.filter fun i=>decide (f (A.getD i default)=v)).length:=by
  intro l v
  induction l with
  |nil=>rfl
  | cons x l b=>
    simp only [XV]
    by_cases g:f (A.getD x default)<v
    . have c:f (A.getD x default)<v+1:=by omega
      have d: ¬f (A.getD x default)=v:=by omega
      rw [if_pos (decide_eq_true c),if_pos (decide_eq_true g),if_neg (by rw [decide_eq_true_eq];exact d),Xv,Xv,b];omega
    . by_cases d:f (A.getD x default)=v
      . have c:f (A.getD x default)<v+1:=by omega
        rw [if_pos (decide_eq_true c),if_neg (by rw [decide_eq_true_eq];exact g),if_pos (decide_eq_true d),Xv,Xv,b];omega
      . have c: ¬f (A.getD x default)<v+1:=by omega
        rw [if_neg (by rw [decide_eq_true_eq];exact c),if_neg (by rw [decide_eq_true_eq];exact g),if_neg (by rw [decide_eq_true_eq];exact d),b]
 induction v with
 |zero=>rw [start];symm;rw [List.length_eq_zero_iff,List.filter_eq_nil_iff];intro a _;simp only [Nat.not_lt_zero,decide_false,Bool.false_eq_true,not_false_eq_true]
 |succ v b=>rw [start,b,e];rfl
theorem pf(v:Nat):start A f v+(outs A f A.length v).length<=A.length:=by
 have:=start_eq A f (v+1)
 rw [start]at this
 rw [this]
 exact Xw (List.length_filter_le _ _) (by simp)
theorem tQ{u v:Nat}(h:u<v):start A f u+(outs A f A.length u).length<=start A f v:=by
 induction v with
 |zero=>omega
 | succ v a=>
   rw [start]
   by_cases b:u=v
   . subst b;exact XF _
   . have:=a (by omega);omega
theorem zT{u v r s:Nat}(b:r<(outs A f A.length u).length)(c:s<(outs A f A.length v).length)(h:start A f u+r=start A f v+s):u=v/\r=s:=by
 rcases Nat.lt_trichotomy u v with a|a|a
 . have:=tQ A f a;omega
 . subst a;exact⟨rfl,by omega⟩
 . have:=tQ A f a;omega
end
def cB(x:Nat):List Value:=[.int .i64 x]
theorem fj(x:Nat):(cB x).length=1:=rfl
def gb(h:Hp)(m:Nat)(v:Value)(N:Nat)(R:Nat->List Nat):Prop:=
 ∃a b,v=.slice (some ⟨a,0,none⟩) N N/\m<=a/\Row h a b 1/\b.length=N/\ ∀i,i<N-> ∃w,b[i]? =some w/\au h 1 cB w (R i)/\ ∀c,aq w c->m<=c
theorem gb.mo{M:Nat->Prop}{h h':Hp}{v:Value}{m N:Nat}{R:Nat->List Nat}(r:gb h m v N R)(g:Mo M h h')(e: ∀b,M b->b<m):gb h' m v N R:=by
 obtain⟨j,f,k,t,l,n,p⟩:=r
 refine⟨j,f,k,by omega,g.has (o:=.row f 1) l (fun h=>by have:=e _ h;omega),n,fun i q=>?_⟩
 obtain⟨w,a,b,c⟩:=p i q
 exact⟨w,a,b.mo g fun x d s=>by have:=e _ s;have:=c x d;omega,fun x d=>by have:=c x d;omega⟩
theorem gb.gr{h h':Hp}{v:Value}{m N:Nat}{R:Nat->List Nat}(g:Gr h h')(r:gb h m v N R):gb h' m v N R:=
 r.mo (M:=NoM) g.fr (fun _ h=>h.elim)
theorem gb.low{h:Hp}{v:Value}{m d N:Nat}{R:Nat->List Nat}(r:gb h m v N R)(p:d<=m):gb h d v N R:=by
 obtain⟨e,f,g,q,j,k,l⟩:=r
 exact⟨e,f,g,by omega,j,k,fun i n=>by
  obtain⟨w,a,b,c⟩:=l i n
  exact⟨w,a,b,fun x o=>by have:=c x o;omega⟩⟩
structure bI(h:Hp)(m:Nat)(p:Value)(γ:Gra):Prop where
 ex: ∃b vx vy va vo vi,p=ptrTo b/\Row h b [.int .i64 γ.nodes,vx,vy,va,vo,vi] 1/\dr h vx vy va γ/\gb h m vo γ.nodes (outs γ.arcs Arc.s γ.arcs.length)/\gb h m vi γ.nodes (outs γ.arcs Arc.t γ.arcs.length)/\m<=b/\ ∀c,aq vx c\/aq vy c\/aq va c->m<=c
theorem dr.mo{M:Nat->Prop}{h h':Hp}{b d e:Value}{γ:Gra}(a:dr h b d e γ)(g:Mo M h h')(f: ∀c,aq b c\/aq d c\/aq e c-> ¬M c):dr h' b d e γ:=
 ⟨a.X.mo g fun c h=>f c (.inl h),a.Y.mo g fun c h=>f c (.inr (.inl h)),a.A.mo g fun c h=>f c (.inr (.inr h))⟩
theorem bI.mo{M:Nat->Prop}{h h':Hp}{m:Nat}{p:Value}{γ:Gra}(n:bI h m p γ)(g:Mo M h h')(a: ∀b,M b->b<m):bI h' m p γ:=by
 obtain⟨b,e,f,i,j,k,l,q,r,s,t,u,d⟩:=n.ex
 exact⟨b,e,f,i,j,k,l,g.has (o:=.row _ 1) q (fun h=>by have:=a _ h;omega),r.mo g (fun c v w=>by have:=a _ w;have:=d c v;omega),s.mo g a,t.mo g a,u,d⟩
theorem bI.gr{h h':Hp}{m:Nat}{p:Value}{γ:Gra}(n:bI h m p γ)(g:Gr h h'):bI h' m p γ:=n.mo (M:=NoM) g.fr (fun _ h=>h.elim)
theorem lU{α:Type}{N k:Nat}{F F':Nat->α}(b: ∀i,i<N->i≠k->F' i=F i):((Xk N).map F).set k (F' k)=(Xk N).map F':=by
 refine Xo fun i=>?_
 rw [Xp]
 by_cases a:i<N
 . by_cases e:k=i
   . subst e;simp [a]
   . rw [if_neg e];simp [a,b i a (Ne.symm e)]
 . by_cases e:k=i
   . subst e;simp [a]
   . rw [if_neg e];simp [a]
theorem kM{α:Type}{N k:Nat}{F:Nat->α}(a:k<N):((Xk N).map F)[k]? =some (F k):=by simp [a]
end Go.Ab

end
section
namespace Go.Ab
structure Hd where
 id:Nat
 key:Int
deriving Inhabited,DecidableEq
def hle(a b:Hd):Prop:=a.key<b.key\/(a.key=b.key/\a.id<=b.id)
def hlt(a b:Hd):Prop:=a.key<b.key\/(a.key=b.key/\a.id<b.id)
instance (a b:Hd):Decidable (hlt a b):=by unfold hlt;infer_instance
theorem uA{a b:Hd}(h: ¬hlt a b):hle b a:=by unfold hlt at h;unfold hle;omega
theorem qS{a b:Hd}(h:hlt a b):hle a b:=by unfold hlt at h;unfold hle;omega
theorem jB{a b c:Hd}(h:hle a b)(k:hle b c):hle a c:=by unfold hle at*;omega
theorem tE(a:Hd):hle a a:=by unfold hle;omega
def sw(l:List Hd)(i k:Nat):List Hd:=(l.set i (l.getD k default)).set k (l.getD i default)
theorem gM(l:List Hd)(i k:Nat):(sw l i k).length=l.length:=by simp [sw]
theorem jD(l:List Hd)(i j:Nat)(x:Hd):(l.set i x).getD j default=if i=j/\j<l.length then x else l.getD j default:=by
 rw [zN,zN,Xp]
 by_cases h:i=j
 . subst h
   by_cases a:i<l.length
   . simp [a]
   . simp [a]
 . simp [h]
theorem iu(l:List Hd){i k:Nat}(f:i<l.length)(g:k<l.length)(j:Nat):(sw l i k).getD j default=if j=k then l.getD i default else if j=i then l.getD k default else l.getD j default:=by
 unfold sw
 rw [jD,jD,Xs]
 by_cases a:k=j
 . subst a;simp [g]
 . have b: ¬j=k:=fun e=>a e.symm
   simp only [a,b,false_and,if_false]
   by_cases c:i=j
   . subst c;simp [f]
   . have d: ¬j=i:=fun e=>c e.symm
     simp [c,d]
theorem sh(l:List Hd){i k:Nat}(a:i<l.length)(b:k<l.length):(sw l i k).Perm l:=by
 have:((l.set i l[k]).set k l[i]).Perm l:=List.set_set_perm a b
 unfold sw
 rwa [show l.getD k default=l[k] by simp [zN,b],show l.getD i default=l[i] by simp [zN,a]]
def lz(l:List Hd):Prop:= ∀j,0<j->j<l.length->hle (l.getD ((j-1)/4) default) (l.getD j default)
def qC(l:List Hd)(i:Nat):Prop:=(∀j,0<j->j<l.length->j≠i->hle (l.getD ((j-1)/4) default) (l.getD j default))/\ ∀j,0<j->j<l.length->(j-1)/4=i->0<i->hle (l.getD ((i-1)/4) default) (l.getD j default)
theorem up_done{l:List Hd}{i:Nat}(h:qC l i)(a:i=0\/hle (l.getD ((i-1)/4) default) (l.getD i default)):lz l:=by
 intro j b c
 by_cases e:j=i
 . subst e;exact a.resolve_left (by omega)
 . exact h.1 j b c e
theorem up_step{l:List Hd}{i:Nat}(f:i<l.length)(h:qC l i)(h0:0<i)(n:hlt (l.getD i default) (l.getD ((i-1)/4) default)):qC (sw l i ((i-1)/4)) ((i-1)/4):=by
 have c:(i-1)/4<l.length:=by omega
 generalize d:(i-1)/4=p at*
 have t:p<i:=by omega
 refine⟨fun j e b g=>?_,fun j e b g q=>?_⟩
 . rw [gM]at b
   rw [iu l f c,iu l f c,if_neg g]
   by_cases a:j=i
   . subst a;rw [d,if_pos rfl,if_pos rfl];exact qS n
   . rw [if_neg a]
     by_cases k:(j-1)/4=p
     . rw [if_pos k]
       have:=h.1 j e b a
       rw [k]at this
       exact jB (qS n) this
     . rw [if_neg k]
       by_cases m:(j-1)/4=i
       . rw [if_pos m];have:=h.2 j e b m h0;rwa [d]at this
       . rw [if_neg m];exact h.1 j e b a
 . rw [gM]at b
   have r: ¬(p-1)/4=p:=by omega
   have s: ¬(p-1)/4=i:=by omega
   rw [iu l f c,iu l f c,if_neg r,if_neg s,if_neg (show¬j=p by omega)]
   have o:=h.1 p q c (by omega)
   by_cases a:j=i
   . rw [if_pos a];exact o
   . rw [if_neg a]
     have:=h.1 j e b a
     rw [g]at this
     exact jB o this
def sb(l:List Hd)(i:Nat):Prop:=(∀j,0<j->j<l.length->(j-1)/4≠i->hle (l.getD ((j-1)/4) default) (l.getD j default))/\ ∀j,0<j->j<l.length->(j-1)/4=i->0<i->hle (l.getD ((i-1)/4) default) (l.getD j default)
theorem dn_done{l:List Hd}{i:Nat}(h:sb l i)(c: ∀j,0<j->j<l.length->(j-1)/4=i->hle (l.getD i default) (l.getD j default)):lz l:=by
 intro j a b
 by_cases e:(j-1)/4=i
 . rw [e];exact c j a b e
 . exact h.1 j a b e
theorem dn_step{l:List Hd}{i b:Nat}(h:sb l i)(o:0<b)(c:b<l.length)(k:(b-1)/4=i)(p:hlt (l.getD b default) (l.getD i default))(q: ∀j,0<j->j<l.length->(j-1)/4=i->hle (l.getD b default) (l.getD j default)):sb (sw l i b) b:=by
 have g:i<l.length:=by omega
 refine⟨fun j d a m=>?_,fun j d a m _=>?_⟩
 . rw [gM]at a
   rw [iu l g c,iu l g c,if_neg m]
   by_cases e:(j-1)/4=i
   . rw [if_pos e]
     by_cases f:j=b
     . rw [if_pos f];exact qS p
     . rw [if_neg f,if_neg (show¬j=i by omega)];exact q j d a e
   . rw [if_neg e]
     by_cases f:j=b
     . subst f;exact absurd k e
     . rw [if_neg f]
       by_cases n:j=i
       . subst n;rw [if_pos rfl];exact h.2 b o c k d
       . rw [if_neg n];exact h.1 j d a e
 . rw [gM]at a
   rw [iu l g c,iu l g c,k,if_neg (show¬i=b by omega),if_pos rfl,if_neg (show¬j=b by omega),if_neg (show¬j=i by omega)]
   have:=h.1 j d a (by omega)
   rwa [m]at this
theorem zl{l:List Hd}(h:lz l): ∀j,j<l.length->hle (l.getD 0 default) (l.getD j default):=by
 intro j
 induction j using Nat.strongRecOn with
 | _ j a=>
   intro b
   by_cases e:j=0
   . subst e;exact tE _
   . exact jB (a ((j-1)/4) (by omega) (by omega)) (h j (by omega) b)
theorem jX(l m:List Hd){j:Nat}(a:j<l.length):(l++m).getD j default=l.getD j default:=by
 rw [zN,zN,Xe a]
theorem vQ{l:List Hd}(h:lz l)(x:Hd):qC (l++[x]) l.length:=by
 refine⟨fun j b a c=>?_,fun j b a c _=>?_⟩
 . simp at a
   rw [jX l _ (by omega),jX l _ (by omega)]
   exact h j b (by omega)
 . simp at a;omega
theorem AT{l:List Hd}(h:lz l){i:Nat}{x:Hd}(f:hle x (l.getD i default)):qC (l.set i x) i:=by
 refine⟨fun j b a c=>?_,fun j b a c g=>?_⟩
 . rw [Xs]at a
   rw [jD,jD,if_neg (show¬(i=j/\_)from fun e=>c e.1.symm)]
   split
   . rename_i e;have:=h j b a;rw [<-e.1]at this;exact jB f this
   . exact h j b a
 . rw [Xs]at a
   rw [jD,jD,if_neg (show¬(i=j/\_) by omega),if_neg (show¬(i=(i-1)/4/\_) by omega)]
   have k:=h i g (by omega)
   have d:=h j b a
   rw [c]at d
   exact jB k d
theorem getD_take(l:List Hd){n j:Nat}(a:j<n):(l.take n).getD j default=l.getD j default:=by
 rw [zN,zN,XW a]
theorem heap_pop{l:List Hd}(h:lz l)(d:0<l.length):sb ((sw l 0 (l.length-1)).take (l.length-1)) 0:=by
 refine⟨fun j a b c=>?_,fun j a b c e=>?_⟩
 . rw [Xm,gM]at b
   rw [getD_take _ (by omega),getD_take _ (by omega),iu l (by omega) (by omega),iu l (by omega) (by omega),if_neg (by omega),if_neg (by omega),if_neg (by omega),if_neg (by omega)]
   exact h j a (by omega)
 . omega
def gU(l:List Hd)(K:Nat->Option Int):Prop:=(l.map Hd.id).Nodup/\ ∀v k,K v=some k↔⟨v,k⟩∈l
def cE(K:Nat->Option Int)(v:Nat)(x:Option Int):Nat->Option Int:=fun u=>if u=v then x else K u
theorem gU.perm{l m:List Hd}{K:Nat->Option Int}(h:gU l K)(p:m.Perm l):gU m K:=
 ⟨(p.map Hd.id).nodup_iff.2 h.1,fun v k=>by rw [h.2];exact p.mem_iff.symm⟩
theorem gU.free{l:List Hd}{K:Nat->Option Int}(h:gU l K){v:Nat}(a:K v=none):v∉l.map Hd.id:=by
 intro b
 obtain⟨x,c,rfl⟩:=List.mem_map.1 b
 have:=(h.2 x.id x.key).2 c
 rw [a]at this;cases this
theorem gU.push{l:List Hd}{K:Nat->Option Int}(h:gU l K){v:Nat}(d:K v=none)(k:Int):gU (l++[⟨v,k⟩]) (cE K v (some k)):=by
 refine⟨?_,fun u x=>?_⟩
 . rw [Xi,Xd]
   exact⟨h.1,by simp,fun a g b f e=>h.free d (by simp at f;subst f;subst e;exact g)⟩
 . unfold cE
   by_cases e:u=v
   . subst e
     rw [if_pos rfl,X7]
     constructor
     . intro e;cases e;exact .inr (by simp)
     . rintro(c|c)
       . have:=(h.2 u x).2 c;rw [d]at this;cases this
       . simp at c;rw [c]
   . rw [if_neg e,X7,h.2]
     constructor
     . exact .inl
     . rintro(c|c)
       . exact c
       . simp at c;exact absurd c.1 e
theorem nodup_idx{l:List Hd}(h:(l.map Hd.id).Nodup){i j:Nat}(a:i<l.length)(b:j<l.length)(e:(l.getD i default).id=(l.getD j default).id):i=j:=by
 refine oW h (x:=(l.getD i default).id) (by simp [a]) ?_
 rw [e];simp [b]
theorem gU.lower{l:List Hd}{K:Nat->Option Int}(h:gU l K){i:Nat}(c:i<l.length)(k:Int):gU (l.set i ⟨(l.getD i default).id,k⟩) (cE K (l.getD i default).id (some k)):=by
 have g:(l.set i ⟨(l.getD i default).id,k⟩).map Hd.id=l.map Hd.id:=by
  rw [List.map_set]
  refine Xo fun j=>?_
  rw [Xp]
  split
  . rename_i e;subst e;simp [c]
  . rfl
 refine⟨by rw [g];exact h.1,fun u x=>?_⟩
 unfold cE
 by_cases e:u=(l.getD i default).id
 . rw [if_pos e]
   constructor
   . intro m;cases m;subst e;exact List.mem_iff_getElem?.2 ⟨i,by simp [c]⟩
   . intro b
     obtain⟨j,a⟩:=List.mem_iff_getElem?.1 b
     rw [Xp]at a
     split at a
     . cases a;rfl
     . rename_i d
       have f:=(List.getElem?_eq_some_iff.1 a).1
       exact absurd (nodup_idx h.1 c f (by rw [<-e];simp [zN,a])) d
 . rw [if_neg e,h.2]
   constructor
   . intro b
     obtain⟨j,a⟩:=List.mem_iff_getElem?.1 b
     refine List.mem_iff_getElem?.2 ⟨j,?_⟩
     rw [Xp,if_neg ?_]
     . exact a
     . rintro rfl
       apply e
       simp [zN,a]
   . intro b
     obtain⟨j,a⟩:=List.mem_iff_getElem?.1 b
     rw [Xp]at a
     split at a
     . cases a;exact absurd rfl e
     . exact Xb a
theorem gU.pop{l:List Hd}{K:Nat->Option Int}(h:gU l K)(g:0<l.length):gU ((sw l 0 (l.length-1)).take (l.length-1)) (cE K (l.getD 0 default).id none):=by
 have p:=sh l (i:=0) (k:=l.length-1) g (by omega)
 have n:=h.perm p
 have e:sw l 0 (l.length-1)=(sw l 0 (l.length-1)).take (l.length-1)++[l.getD 0 default]:=by
  refine Xo fun j=>?_
  have o:=iu l (i:=0) (k:=l.length-1) g (by omega) (l.length-1)
  rw [if_pos rfl]at o
  have a:=gM l 0 (l.length-1)
  by_cases q:j<l.length-1
  . rw [Xe (by simp [a];omega),XW q]
  . by_cases c:j=l.length-1
    . subst c
      rw [Xc (by simp [a])]
      rw [<-o]
      simp [a,zN,show l.length-1<l.length by omega]
    . rw [Ya (by omega),Ya (by simp [a];omega)]
 generalize(sw l 0 (l.length-1)).take (l.length-1)=m at*
 generalize l.getD 0 default=x at*
 rw [e]at n
 obtain⟨d,r⟩:=n
 rw [Xi,Xd]at d
 refine⟨d.1,fun v k=>?_⟩
 unfold cE
 by_cases b:v=x.id
 . rw [if_pos b]
   constructor
   . intro h;cases h
   . intro s
     exact absurd b (d.2.2 v (Xf (f:=Hd.id) s) x.id (by simp))
 . rw [if_neg b,r,X7]
   constructor
   . rintro(h|h)
     . exact h
     . simp at h;exact absurd (by rw [<-h]) b
   . exact .inl
theorem gU.at{l:List Hd}{K:Nat->Option Int}(h:gU l K){i:Nat}(a:i<l.length):K (l.getD i default).id=some (l.getD i default).key:=
 (h.2 _ _).2 (List.mem_iff_getElem?.2 ⟨i,by simp [a]⟩)
theorem gU.idx{l:List Hd}{K:Nat->Option Int}(h:gU l K){v:Nat}{k:Int}(b:K v=some k): ∃i,i<l.length/\l.getD i default=⟨v,k⟩:=by
 obtain⟨i,a⟩:=List.mem_iff_getElem?.1 ((h.2 v k).1 b)
 exact⟨i,(List.getElem?_eq_some_iff.1 a).1,by simp [zN,a]⟩
theorem gU.nil{K:Nat->Option Int}(h:gU [] K)(v:Nat):K v=none:=by
 cases a:K v with
 |none=>rfl
 |some k=>have:=(h.2 v k).1 a;cases this
theorem cont_nil:gU [] (fun _=>none):=⟨.nil,fun v k=>by constructor<;>intro h<;>cases h⟩
end Go.Ab

end
section
namespace Go.Ab
def FAR:Nat:=72057594037927936
def bO:Nat:=2147483647
theorem jK:FAR=72057594037927936:=rfl
theorem kP:bO=2147483647:=rfl
inductive Wk(B:List Arc)(s:Nat):Nat->Nat->Prop where
 |nil:Wk B s s 0
 |snoc {w:Nat} {a:Arc}:a∈B->Wk B s a.s w->Wk B s a.t (w+a.w)
theorem Wk.snoc'{B:List Arc}{s u v w x:Nat}(h:Wk B s u w){a:Arc}(b:a∈B)(c:a.s=u)(d:a.t=v)(e:x=w+a.w):Wk B s v x:=by
 subst c d e;exact .snoc b h
def IsD(B:List Arc)(s v x:Nat):Prop:=(x<FAR/\Wk B s v x/\ ∀w,Wk B s v w->x<=w)\/(x=FAR/\ ∀w,¬Wk B s v w)
theorem IsD.uniq{B:List Arc}{s v x y:Nat}(h:IsD B s v x)(k:IsD B s v y):x=y:=by
 rcases h with⟨a,b,c⟩|⟨a,b⟩<;>rcases k with⟨d,e,f⟩|⟨d,e⟩
 . have:=c _ e;have:=f _ b;omega
 . exact absurd b (e _)
 . exact absurd e (b _)
 . omega
theorem IsD.le{B:List Arc}{s v x:Nat}(h:IsD B s v x):x<=FAR:=by
 rcases h with⟨a,_,_⟩|⟨a,_⟩<;>omega
theorem IsD.arc{B:List Arc}{s x y:Nat}{a:Arc}(c:a∈B)(f:IsD B s a.s x)(d:IsD B s a.t y):y<=x+a.w:=by
 rcases f with⟨g,b,j⟩|⟨g,b⟩
 . rcases d with⟨h,e,i⟩|⟨h,e⟩
   . exact i _ (.snoc c b)
   . exact absurd (.snoc c b) (e _)
 . have:=d.le;omega
theorem oG: ∀(N:Nat) (l:List Nat),l.Nodup->(∀x∈l,x<N)->l.length<=N
 | 0,l,_,h=>by
   cases l with
   |nil=>simp
   |cons x l=>have:=h x (by simp);omega
 | N+1,l,b,h=>by
   have f:=oG N (l.erase N) (b.erase N) (fun x c=>by
    have d:=h x (List.mem_of_mem_erase c)
    have g:x≠N:=fun e=>by subst e;exact(List.Nodup.not_mem_erase b) c
    omega)
   have d:=List.length_erase (a:=N) (l:=l)
   split at d<;>omega

section
variable{B:List Arc}{s N:Nat}{O:List Nat}{D:Nat->Nat}{K:Nat->Option Int}{ex:Arc->Prop}
structure Dj(B:List Arc)(s N:Nat)(O:List Nat)(D:Nat->Nat)(K:Nat->Option Int)(ex:Arc->Prop):Prop where
 i1: ∀v,v∈O->K v=none
 i2: ∀v∈O,Wk B s v (D v)/\(∀w,Wk B s v w->D v<=w)/\D v<=O.length*bO
 i2f: ∀v,v∉O->D v=FAR
 i3: ∀v k,K v=some k->v<N/\ ∃n:Nat,k=n/\Wk B s v n/\n<=O.length*bO
 i4: ∀a∈B,a.s∈O-> ¬ex a->a.t∈O\/ ∃k:Int,K a.t=some k/\k<=D a.s+a.w
 i5:s∈O\/K s=some 0
 nd:O.Nodup
 lt: ∀v∈O,v<N
theorem Dj.len(d:Dj B s N O D K ex):O.length<=N:=oG N O d.nd d.lt
theorem dj_init(b:s<N):Dj B s N [] (fun _=>FAR) (cE (fun _=>none) s (some 0)) (fun _=>False):=by
 refine⟨fun v h=>(by cases h),fun v h=>(by cases h),fun v _=>rfl,fun v k h=>?_,fun a _ h=>(by cases h),.inr (by simp [cE]),.nil,fun v h=>(by cases h)⟩
 unfold cE at h
 split at h
 . rename_i e;cases h;subst e;exact⟨b,0,rfl,.nil,by simp⟩
 . cases h
theorem Dj.front(d:Dj B s N O D K (fun _=>False)){x w:Nat}(h:Wk B s x w):x∈O\/ ∃y k,K y=some k/\k<=(w:Int):=by
 induction h with
 |nil=>exact d.i5.imp (fun h=>h) (fun h=>⟨_,_,h,by omega⟩)
 | @snoc w a e f b=>
   rcases b with b|⟨y,k,c,g⟩
   . rcases d.i4 a e b (fun h=>h)with h|⟨k,c,g⟩
     . exact .inl h
     . have:=(d.i2 _ b).2.1 _ f
       exact .inr ⟨_,k,c,by omega⟩
   . exact .inr ⟨y,k,c,by omega⟩
theorem Dj.pop(d:Dj B s N O D K (fun _=>False)){v:Nat}{n:Nat}(q:K v=some (n:Int))(A: ∀u k,K u=some k->(n:Int)<=k):
 Dj B s N (O++[v]) (fun u=>if u=v then n else D u) (cE K v none) (fun a=>a.s=v)/\v∉O/\v<N/\n<=O.length*bO:=by
 have g:v∉O:=fun h=>by have:=d.i1 v h;rw [q]at this;cases this
 obtain⟨i,C,e,E,l⟩:=d.i3 v _ q
 have e:n=C:=by omega
 subst e
 have r:(O++[v]).length*bO=O.length*bO+bO:=by rw [Xz,List.length_singleton,Nat.succ_mul]
 refine⟨⟨fun u f=>?_,fun u f=>?_,fun u f=>?_,fun u k f=>?_,fun a o t x=>?_,?_,?_,fun u f=>?_⟩,g,i,l⟩
 . unfold cE
   by_cases e:u=v
   . rw [if_pos e]
   . rw [if_neg e];simp [e]at f;exact d.i1 u f
 . rw [r]
   by_cases e:u=v
   . subst e
     simp only [if_true]
     refine⟨E,fun w h=>?_,by omega⟩
     rcases d.front h with j|⟨y,k,j,z⟩
     . exact absurd j g
     . have:=A y k j;omega
   . simp only [e,if_false]
     simp [e]at f
     obtain⟨a,b,c⟩:=d.i2 u f
     exact⟨a,b,by omega⟩
 . simp at f
   simp only [f.2,if_false]
   exact d.i2f u f.1
 . unfold cE at f
   split at f
   . cases f
   . obtain⟨a,m,b,c,e⟩:=d.i3 u k f
     exact⟨a,m,b,c,by rw [r];omega⟩
 . simp [x]at t
   have p: ¬a.s=v:=x
   simp only [p,if_false]
   rcases d.i4 a o t (fun h=>h)with h|⟨k,j,z⟩
   . exact .inl (by simp [h])
   . by_cases e:a.t=v
     . exact .inl (by simp [e])
     . exact .inr ⟨k,by unfold cE;rw [if_neg e];exact j,z⟩
 . rcases d.i5 with h|h
   . exact .inl (by simp [h])
   . by_cases e:s=v
     . exact .inl (by simp [e])
     . exact .inr (by unfold cE;rw [if_neg e];exact h)
 . rw [Xd]
   exact⟨d.nd,by simp,fun a o b l e=>g (by simp at l;subst l;subst e;exact o)⟩
 . rcases List.mem_append.1 f with h|h
   . exact d.lt u h
   . simp at h;subst h;exact i
def iN(O:List Nat)(K:Nat->Option Int)(u:Nat)(x:Int):Nat->Option Int:=if u∈O then K else match K u with
 |some k=>if k<=x then K else cE K u (some x)
 |none=>cE K u (some x)
theorem Dj.relaxed (d:Dj B s N O D K ex) {ex':Arc->Prop} {a:Arc} (t:a∈B) (u:a.s∈O) (w:a.t<N) (m:D a.s+a.w<=O.length*bO) (x: ∀b∈B,¬ex' b-> ¬ex b\/b=a):
 Dj B s N O D (iN O K a.t ((D a.s+a.w:Nat):Int)) ex':=by
 have f: ∀i,(∀v,v∈O->i v=K v)->(∀v k,i v=some k->K v=some k\/(v=a.t/\k=((D a.s+a.w:Nat):Int)))->(∀v k,K v=some k-> ∃j,i v=some j/\j<=k)->(a.t∈O\/ ∃k:Int,i a.t=some k/\k<=D a.s+a.w)->Dj B s N O D i ex':=by
  intro i y q r z
  refine⟨fun v c=>by rw [y v c];exact d.i1 v c,d.i2,d.i2f,fun v k g=>?_,fun b m n o=>?_,?_,d.nd,d.lt⟩
  . rcases q v k g with h|⟨rfl,rfl⟩
    . exact d.i3 v k h
    . exact⟨w,_,rfl,.snoc t (d.i2 _ u).1,m⟩
  . rcases x b m o with h|rfl
    . rcases d.i4 b m n h with h|⟨k,A,E⟩
      . exact .inl h
      . obtain⟨j,l,C⟩:=r _ _ A
        exact .inr ⟨j,l,by omega⟩
    . exact z
  . rcases d.i5 with h|h
    . exact .inl h
    . obtain⟨j,l,C⟩:=r _ _ h
      rcases q _ _ l with p|⟨p,F⟩
      . rw [h]at p;exact .inr (by rw [l,p])
      . exact .inr (by rw [l];congr 1;omega)
 unfold iN
 by_cases h:a.t∈O
 . rw [if_pos h];exact f K (fun _ _=>rfl) (fun _ _ h=>.inl h) (fun v k h=>⟨k,h,by omega⟩) (.inl h)
 . rw [if_neg h]
   have upd:(∀k,K a.t=some k->((D a.s+a.w:Nat):Int)<=k)->Dj B s N O D (cE K a.t (some ((D a.s+a.w:Nat):Int))) ex':=fun g=>by
    refine f _ (fun v c=>?_) (fun v k c=>?_) (fun v k c=>?_) (.inr ⟨((D a.s+a.w:Nat):Int),by unfold cE;rw [if_pos rfl],by omega⟩)
    . unfold cE;rw [if_neg (fun e=>h (by subst e;exact c))]
    . unfold cE at c
      split at c
      . rename_i e;cases c;exact .inr ⟨e,rfl⟩
      . exact .inl c
    . unfold cE
      by_cases e:v=a.t
      . rw [if_pos e];subst e;exact⟨_,rfl,g k c⟩
      . rw [if_neg e];exact⟨k,c,by omega⟩
   cases g:K a.t with
   |none=>simp only [];exact upd (fun k e=>by rw [g]at e;cases e)
   | some k=>
     simp only []
     split
     . rename_i hle
       exact f K (fun _ _=>rfl) (fun _ _ h=>.inl h) (fun v k h=>⟨k,h,by omega⟩) (.inr ⟨k,g,by omega⟩)
     . rename_i hle
       exact upd (fun j e=>by rw [g]at e;cases e;omega)
theorem Dj.done(d:Dj B s N O D K (fun _=>False))(f: ∀v,K v=none)(g:N<=12)(v:Nat):IsD B s v (D v):=by
 have j:=Nat.mul_le_mul_right bO (Xw d.len g)
 have:=jK
 have:=kP
 by_cases h:v∈O
 . obtain⟨a,b,c⟩:=d.i2 v h
   exact .inl ⟨by omega,a,b⟩
 . refine .inr ⟨d.i2f v h,fun w i=>?_⟩
   rcases d.front i with e|⟨y,k,e,_⟩
   . exact h e
   . rw [f]at e;cases e
end
theorem jI{A:List Arc}{f:Arc->Nat}{j v i:Nat}:i∈outs A f j v↔i<j/\f (A.getD i default)=v:=by
 unfold outs
 rw [List.mem_filter,Yb,decide_eq_true_eq]
def cL(a:Arc):Arc:=⟨a.t,a.s,a.w⟩

structure Ls(B:List Arc)(s N:Nat)(l:Nat->Nat):Prop where
 le: ∀v,l v<=FAR
 wk: ∀v,l v=FAR\/Wk B s v (l v)
 s0:l s=0
def jU(l:Nat->Nat)(v x:Nat):Nat->Nat:=fun u=>if u=v then x else l u
theorem Ls.step{B:List Arc}{s N:Nat}{l:Nat->Nat}(h:Ls B s N l){a:Arc}(b:a∈B)(f:l a.s<FAR)(c:l a.s+a.w<l a.t):Ls B s N (jU l a.t (l a.s+a.w)):=by
 have d:=(h.wk a.s).resolve_left (by omega)
 refine⟨fun v=>?_,fun v=>?_,?_⟩
 . unfold jU;split
   . have:=h.le a.t;omega
   . exact h.le v
 . unfold jU;split
   . rename_i e;subst e;exact .inr (.snoc b d)
   . exact h.wk v
 . unfold jU;split
   . rename_i e;rw [<-e,h.s0]at c;omega
   . exact h.s0
end Go.Ab

end
section
namespace Go.Ab
def EM(l:List (Int×Value×Nat)):List (Value×Value×Nat):=l.map fun p=>(.int .i64 p.1,p.2.1,p.2.2)
def dk(f:Int->Option Value)(x:Int)(v:Option Value):Int->Option Value:=fun y=>if y=x then v else f y
def c7(a:List (Value×Value×Nat))(c:Nat)(f:Int->Option Value):Prop:=
 ∃l,a=EM l/\(l.map Xg).Nodup/\(l.map fun p=>p.2.2).Nodup/\(∀p∈l,p.2.2<c)/\ ∀x v,f x=some v↔ ∃n,(x,v,n)∈l
theorem p8{x y:Int}:bH (.int .i64 x) (.int .i64 y)=some (decide (x=y)):=by
 show some (gX x y)=_
 congr 1
 rw [oJ]
theorem yG{l:List (Int×Value×Nat)}(a:(l.map Xg).Nodup){x:Int}{v:Value}{n:Nat}(h:(x,v,n)∈l):aN (.int .i64 x) (EM l)=some (some (v,n)):=by
 induction l with
 |nil=>cases h
 | cons p l b=>
   obtain⟨y,w,m⟩:=p
   show(match bH (.int .i64 x) (.int .i64 y)with|none=>none|some true=>some (some (w,m))|some false=>aN (.int .i64 x) (EM l))=_
   rw [p8]
   rw [Xt,XJ]at a
   by_cases e:x=y
   . subst e
     rw [decide_eq_true rfl]
     simp only []
     rcases List.mem_cons.1 h with h|h
     . cases h;rfl
     . exact absurd (Xf (f:=Xg) h) a.1
   . rw [decide_eq_false e]
     simp only []
     rcases List.mem_cons.1 h with h|h
     . cases h;exact absurd rfl e
     . exact b a.2 h
theorem find_miss{l:List (Int×Value×Nat)}{x:Int}(h:x∉l.map Xg):aN (.int .i64 x) (EM l)=some none:=by
 induction l with
 |nil=>rfl
 | cons p l a=>
   obtain⟨y,w,m⟩:=p
   show(match bH (.int .i64 x) (.int .i64 y)with|none=>none|some true=>some (some (w,m))|some false=>aN (.int .i64 x) (EM l))=_
   rw [p8]
   simp only [Xt,Xy,not_or]at h
   rw [decide_eq_false h.1]
   exact a h.2
theorem ra{l:List (Int×Value×Nat)}(c:(l.map Xg).Nodup){x:Int}{v:Value}{n:Nat}(h:(x,v,n)∈l):
 ∃a b,l=a++(x,v,n)::b/\(∀w,iE (.int .i64 x) w (EM l)=EM (a++(x,w,n)::b))/\jE (.int .i64 x) (EM l)=EM (a++b):=by
 induction l with
 |nil=>cases h
 | cons p l d=>
   obtain⟨y,w,m⟩:=p
   rw [Xt,XJ]at c
   by_cases e:x=y
   . subst e
     rcases List.mem_cons.1 h with h|h
     . cases h
       refine⟨[],l,rfl,fun u=>?_,?_⟩
       . show(match bH (.int .i64 x) (.int .i64 x)with|some true=>_|_=>_)=_
         rw [p8,decide_eq_true rfl];rfl
       . show(match bH (.int .i64 x) (.int .i64 x)with|some true=>_|_=>_)=_
         rw [p8,decide_eq_true rfl];rfl
     . exact absurd (Xf (f:=Xg) h) c.1
   . rcases List.mem_cons.1 h with h|h
     . cases h;exact absurd rfl e
     . obtain⟨a,b,g,i,j⟩:=d c.2 h
       refine⟨(y,w,m)::a,b,by rw [g];rfl,fun u=>?_,?_⟩
       . show(match bH (.int .i64 x) (.int .i64 y)with|some true=>_|_=>(Value.int .i64 y,w,m)::iE (.int .i64 x) u (EM l))=_
         rw [p8,decide_eq_false e,i];rfl
       . show(match bH (.int .i64 x) (.int .i64 y)with|some true=>_|_=>(Value.int .i64 y,w,m)::jE (.int .i64 x) (EM l))=_
         rw [p8,decide_eq_false e,j];rfl
theorem sS{a b:List (Int×Value×Nat)}{x:Int}{v w:Value}{n:Nat}(c:((a++(x,v,n)::b).map fun p=>p.2.2).Nodup):fK n w (EM (a++(x,v,n)::b))=some (EM (a++(x,w,n)::b)):=by
 induction a with
 | nil=>
   show(bif XA n n then _ else _)=_
   rw [XX];rfl
 | cons p a d=>
   obtain⟨y,u,m⟩:=p
   rw [List.cons_append,Xt,XJ]at c
   have:XA m n=false:=by
    cases f:XA m n with
    |false=>rfl
    | true=>
      have e:=Yc f
      exact absurd (List.mem_map.2 ⟨(x,v,n),by simp,e.symm⟩) c.1
   show(bif XA m n then _ else match fK n w (EM (a++(x,v,n)::b))with|none=>none|some g=>some ((Value.int .i64 y,u,m)::g))=_
   rw [this,d c.2];rfl
theorem rS{a b:List (Int×Value×Nat)}{x:Int}{v:Value}{n:Nat}:(a++(x,v,n)::b).map Xg=a.map Xg++x::b.map Xg:=by simp
section
variable{es:List (Value×Value×Nat)}{c:Nat}{f:Int->Option Value}{x:Int}
theorem mz:c7 [] 0 (fun _=>none):=⟨[],rfl,.nil,.nil,fun _ h=>(by cases h),fun x v=>⟨fun h=>(by cases h),fun⟨_,h⟩=>(by cases h)⟩⟩
theorem c7.hit(h:c7 es c f){v:Value}(hf:f x=some v): ∃n,aN (.int .i64 x) es=some (some (v,n)):=by
 obtain⟨l,rfl,a,e,g,b⟩:=h
 obtain⟨n,d⟩:=(b x v).1 hf
 exact⟨n,yG a d⟩
theorem c7.miss(h:c7 es c f)(hf:f x=none):aN (.int .i64 x) es=some none:=by
 obtain⟨l,rfl,e,g,i,a⟩:=h
 refine find_miss fun b=>?_
 obtain⟨⟨y,v,n⟩,d,rfl⟩:=List.mem_map.1 b
 have:=(a y v).2 ⟨n,d⟩
 rw [hf]at this;cases this
theorem tI{a b:List (Int×Value×Nat)}{v w:Value}{n:Nat}(i:((a++(x,v,n)::b).map Xg).Nodup)(j:((a++(x,v,n)::b).map fun p=>p.2.2).Nodup)(h3: ∀p∈a++(x,v,n)::b,p.2.2<c)
 (h4: ∀x' v',f x'=some v'↔ ∃k,(x',v',k)∈a++(x,v,n)::b):c7 (EM (a++(x,w,n)::b)) c (dk f x (some w)):=by
 have h:=i
 rw [rS,Xd]at h
 refine⟨_,rfl,by rw [rS];rwa [rS]at i,by rw [Xi,Xt]at j⊢;exact j,fun p g=>?_,fun y u=>?_⟩
 . rcases List.mem_append.1 g with g|g
   . exact h3 p (by simp [g])
   . rcases List.mem_cons.1 g with rfl|g
     . exact h3 (x,v,n) (by simp)
     . exact h3 p (by simp [g])
 . unfold dk
   by_cases e:y=x
   . subst e
     rw [if_pos rfl]
     constructor
     . intro e;cases e;exact⟨n,by simp⟩
     . rintro⟨m,d⟩
       rcases List.mem_append.1 d with d|d
       . exact absurd rfl (h.2.2 y (Xf (f:=Xg) d) y (by simp))
       . rcases List.mem_cons.1 d with d|d
         . cases d;rfl
         . exact absurd (Xf (f:=Xg) d) (List.nodup_cons.1 h.2.1).1
   . rw [if_neg e,h4]
     constructor<;>rintro⟨m,d⟩<;>refine⟨m,?_⟩
     . rcases List.mem_append.1 d with d|d
       . simp [d]
       . rcases List.mem_cons.1 d with d|d
         . cases d;exact absurd rfl e
         . simp [d]
     . rcases List.mem_append.1 d with d|d
       . simp [d]
       . rcases List.mem_cons.1 d with d|d
         . cases d;exact absurd rfl e
         . simp [d]
theorem tt{l:List (Int×Value×Nat)}{w:Value}(k:(l.map Xg).Nodup)(o:(l.map fun p=>p.2.2).Nodup)(h3: ∀p∈l,p.2.2<c)(h4: ∀x' v',f x'=some v'↔ ∃q,(x',v',q)∈l)(hf:f x=none):
 c7 (EM (l++[(x,w,c)])) (c+1) (dk f x (some w)):=by
 have j:x∉l.map Xg:=fun d=>by
  obtain⟨⟨y,v,n⟩,g,rfl⟩:=List.mem_map.1 d
  have:=(h4 y v).2 ⟨n,g⟩
  rw [hf]at this;cases this
 refine⟨_,rfl,?_,?_,fun p g=>?_,fun y u=>?_⟩
 . rw [Xi,Xd]
   exact⟨k,by simp,fun a i b h e=>j (by simp at h;subst h;subst e;exact i)⟩
 . rw [Xi,Xd]
   refine⟨o,by simp,fun a i b h e=>?_⟩
   simp at h;subst h
   obtain⟨p,g,rfl⟩:=List.mem_map.1 i
   have:=h3 p g;omega
 . rcases List.mem_append.1 g with g|g
   . have:=h3 p g;omega
   . simp at g;subst g;exact Nat.lt_succ_self c
 . unfold dk
   by_cases e:y=x
   . subst e
     rw [if_pos rfl]
     constructor
     . intro e;cases e;exact⟨c,by simp⟩
     . rintro⟨m,d⟩
       rcases List.mem_append.1 d with d|d
       . exact absurd (Xf (f:=Xg) d) j
       . simp at d;rw [d.1]
   . rw [if_neg e,h4]
     constructor<;>rintro⟨m,d⟩<;>refine⟨m,?_⟩
     . simp [d]
     . rcases List.mem_append.1 d with d|d
       . exact d
       . simp at d;exact absurd d.1 e
theorem em_app(l:List (Int×Value×Nat))(v:Value)(n:Nat):EM l++[(.int .i64 x,v,n)]=EM (l++[(x,v,n)]):=by unfold EM;rw [Xi];rfl
theorem c7.put(h:c7 es c f)(v:Value): ∃es' c',(match aN (.int .i64 x) es with|none=>none|some (some _)=>some (iE (.int .i64 x) v es,c)|some none=>some (es++[(.int .i64 x,v,c)],c+1))=some (es',c')/\c7 es' c' (dk f x (some v)):=by
 cases hf:f x with
 | none=>
   rw [h.miss hf]
   obtain⟨l,rfl,d,i,j,g⟩:=h
   exact⟨_,_,rfl,by rw [em_app];exact tt d i j g hf⟩
 | some w=>
   obtain⟨n,e⟩:=h.hit hf
   rw [e]
   obtain⟨l,rfl,d,i,j,g⟩:=h
   obtain⟨m,k⟩:=(g x w).1 hf
   obtain⟨a,b,rfl,o,_⟩:=ra d k
   exact⟨_,_,rfl,by rw [o];exact tI d i j g⟩
theorem del_miss{l:List (Int×Value×Nat)}(h:x∉l.map Xg):jE (.int .i64 x) (EM l)=EM l:=by
 induction l with
 |nil=>rfl
 | cons p l a=>
   obtain⟨y,w,m⟩:=p
   simp only [Xt,Xy,not_or]at h
   show(match bH (.int .i64 x) (.int .i64 y)with|some true=>_|_=>(Value.int .i64 y,w,m)::jE (.int .i64 x) (EM l))=_
   rw [p8,decide_eq_false h.1,a h.2];rfl
theorem c7.del(h:c7 es c f):c7 (jE (.int .i64 x) es) c (dk f x none):=by
 obtain⟨l,rfl,o,j,t,k⟩:=h
 cases hf:f x with
 | none=>
   have z:x∉l.map Xg:=fun d=>by
    obtain⟨⟨y,v,n⟩,i,rfl⟩:=List.mem_map.1 d
    have:=(k y v).2 ⟨n,i⟩
    rw [hf]at this;cases this
   rw [del_miss z]
   refine⟨l,rfl,o,j,t,fun y u=>?_⟩
   unfold dk
   by_cases e:y=x
   . subst e;rw [if_pos rfl];exact⟨fun h=>(by cases h),fun⟨n,g⟩=>absurd (Xf (f:=Xg) g) z⟩
   . rw [if_neg e];exact k y u
 | some w=>
   obtain⟨m,d⟩:=(k x w).1 hf
   obtain⟨a,b,rfl,_,C⟩:=ra o d
   rw [C]
   have A:=o
   rw [rS,Xd]at A
   obtain⟨D,q,B⟩:=A
   rw [XJ]at q
   refine⟨a++b,rfl,?_,?_,fun p i=>t p ?_,fun y u=>?_⟩
   . rw [Xi,Xd]
     exact⟨D,q.2,fun u r v s=>B u r v (by simp [s])⟩
   . rw [Xi,Xt,Xd]at j
     rw [Xi,Xd]
     exact⟨j.1,(List.nodup_cons.1 j.2.1).2,fun u r v s=>j.2.2 u r v (List.mem_cons_of_mem _ s)⟩
   . rcases List.mem_append.1 i with i|i<;>simp [i]
   . unfold dk
     by_cases e:y=x
     . subst e
       rw [if_pos rfl]
       refine⟨fun h=>(by cases h),fun⟨n,g⟩=>?_⟩
       rcases List.mem_append.1 g with g|g
       . exact absurd rfl (B y (Xf (f:=Xg) g) y (by simp))
       . exact absurd (Xf (f:=Xg) g) q.1
     . rw [if_neg e,k]
       constructor<;>rintro⟨m,d⟩<;>refine⟨m,?_⟩
       . rcases List.mem_append.1 d with d|d
         . simp [d]
         . rcases List.mem_cons.1 d with d|d
           . cases d;exact absurd rfl e
           . simp [d]
       . rcases List.mem_append.1 d with d|d<;>simp [d]
theorem c7.ent(h:c7 es c f)(z:Value): ∃d q n,(match aN (.int .i64 x) es with|none=>none|some (some (v,n))=>some (iE (.int .i64 x) v es,c,v,n)|some none=>some (es++[(.int .i64 x,z,c)],c+1,z,c))=some (d,q,(f x).getD z,n)/\c7 d q (dk f x (some ((f x).getD z)))/\
 ∀w,∃es2,fK n w d=some es2/\c7 es2 q (dk f x (some w)):=by
 cases hf:f x with
 | none=>
   rw [h.miss hf]
   obtain⟨l,rfl,g,i,j,o⟩:=h
   have k:=tt (w:=z) g i j o hf
   refine⟨_,_,_,rfl,by rw [em_app];exact k,fun w=>?_⟩
   rw [em_app]
   obtain⟨B,e,C,D,E,F⟩:=k
   have u:((l++(x,z,c)::[]).map fun p=>p.2.2).Nodup:=by
    rw [Xi,Xd]
    refine⟨i,by simp,fun a y b r e=>?_⟩
    simp at r;subst r
    obtain⟨p,A,rfl⟩:=List.mem_map.1 y
    have:=j p A;omega
   exact⟨_,sS u,tt g i j o hf⟩
 | some v=>
   obtain⟨l,rfl,g,i,j,o⟩:=h
   obtain⟨m,s⟩:=(o x v).1 hf
   rw [yG g s]
   obtain⟨a,b,rfl,t,_⟩:=ra g s
   refine⟨_,_,_,rfl,by rw [t];exact tI g i j o,fun w=>?_⟩
   rw [t]
   exact⟨_,sS (by simpa using i),tI g i j o⟩
end

section
variable{M:Nat->Prop}{h0 h:Hp}{L:List (Nat×Ob)}{G:List GL}{E:Env}{t kt el:TypeId}{b c:Nat}{es:List (Value×Value×Nat)}{f:Int->Option Value}{x:Int}
theorem pM(a:E.und kt=some (.int .i64)):aP E kt (.int .i64 x)=true:=by simp only [aP,a];rfl
theorem kB(a:E.und t=some (.map kt el))(d:E.und kt=some (.int .i64)){z:Value}(g:E.zeroV el=some z)(i:h.get b=some (.map es c))(m:c7 es c f):
 ce E h t (.map (some b)) (.int .i64 x) true=some (.tuple #[(f x).getD z,.bool (f x).isSome]):=by
 simp only [ce,a,pM d,cond_true,i]
 cases hf:f x with
 |none=>rw [m.miss hf];simp [g]
 |some v=>obtain⟨n,e⟩:=m.hit hf;rw [e];simp
theorem jR(a:E.und t=some (.map kt el))(d:E.und kt=some (.int .i64)){z:Value}(g:E.zeroV el=some z)(i:h.get b=some (.map es c))(m:c7 es c f):
 ce E h t (.map (some b)) (.int .i64 x) false=some ((f x).getD z):=by
 simp only [ce,a,pM d,cond_true,i]
 cases hf:f x with
 |none=>rw [m.miss hf];simp [g]
 |some v=>obtain⟨n,e⟩:=m.hit hf;rw [e];simp
theorem lB{x:Blk}{es':List (Value×Value×Nat)}{c':Nat}(a:h.get b=some x):(h.put b (.map es' c')).get b=some (.map es' c'):=by rw [Hp.get_put,if_pos ⟨rfl,by rw [a];rfl⟩]
theorem St.mputI(S:St M h0 h L G){i:Nat}(d:L[i]? =some (b,.map es c))(g:E.und t=some (.map kt el))(j:E.und kt=some (.int .i64))(m:c7 es c f)(v:Value):
 ∃h',dH E h t (.map (some b)) (.int .i64 x) v=some h'/\Mo (· =b) h h'/\ ∃es' c',c7 es' c' (dk f x (some v))/\St M h0 h' (L.set i (b,.map es' c')) G:=by
 have e:h.get b=some (.map es c):=(S.own _ (Xb d)).2
 obtain⟨es',c',a,k⟩:=m.put (x:=x) v
 refine⟨h.put b (.map es' c'),?_,(Mo.refl (M:=(· =b)) S.ok).put (.inr rfl) _,es',c',k,S.put d (o':=.map es' c') (lB e)⟩
 simp only [dH,iv,g,pM j,cond_true,e]
 revert a
 cases aN (.int .i64 x) es with
 |none=>intro a;cases a
 | some r=>cases r with
   |none=>intro a;cases a;rfl
   |some _=>intro a;cases a;rfl
theorem St.mdelI(S:St M h0 h L G){i:Nat}(a:L[i]? =some (b,.map es c))(g:E.und t=some (.map kt el))(j:E.und kt=some (.int .i64))(m:c7 es c f):
 ∃h',lq E h t (.map (some b)) (.int .i64 x)=some h'/\Mo (· =b) h h'/\ ∃es' c',c7 es' c' (dk f x none)/\St M h0 h' (L.set i (b,.map es' c')) G:=by
 have d:h.get b=some (.map es c):=(S.own _ (Xb a)).2
 refine⟨h.put b (.map (jE (.int .i64 x) es) c),?_,(Mo.refl (M:=(· =b)) S.ok).put (.inr rfl) _,_,c,m.del (x:=x),S.put a (o':=.map _ c) (lB d)⟩
 simp only [lq,iv,g,pM j,cond_true,d]
 cases hf:f x with
 |none=>rw [m.miss hf]
 |some v=>obtain⟨n,e⟩:=m.hit hf;rw [e]
theorem St.mentI(S:St M h0 h L G){i:Nat}(g:L[i]? =some (b,.map es c))(k:E.und t=some (.map kt el))(l:E.und kt=some (.int .i64)){z:Value}(o:E.zeroV el=some z)(m:c7 es c f):
 ∃ h' n,ic E h t (.map (some b)) (.int .i64 x)=some (h',.tuple #[(f x).getD z,.int .i64 (Int.ofNat n)])/\Mo (· =b) h h'/\ ∃es' c',c7 es' c' (dk f x (some ((f x).getD z)))/\St M h0 h' (L.set i (b,.map es' c')) G/\
   ∀w,∃es2,fK n w es'=some es2/\c7 es2 c' (dk f x (some w)):=by
 have j:h.get b=some (.map es c):=(S.own _ (Xb g)).2
 obtain⟨es',c',n,e,p,s⟩:=m.ent (x:=x) z
 refine⟨h.put b (.map es' c'),n,?_,(Mo.refl (M:=(· =b)) S.ok).put (.inr rfl) _,es',c',p,S.put g (o':=.map es' c') (lB j),s⟩
 simp only [ic,iv,k,pM l,cond_true,j,o]
 revert e
 cases aN (.int .i64 x) es with
 |none=>intro e;cases e
 | some r=>cases r with
   |none=>intro e;simp only [Option.some.injEq,Prod.mk.injEq]at e;obtain⟨a,b,c,d⟩:=e;subst a b d;rw [<-c]
   |some q=>obtain⟨u,v⟩:=q;intro e;simp only [Option.some.injEq,Prod.mk.injEq]at e;obtain⟨a,b,c,d⟩:=e;subst a b d;rw [<-c]
theorem St.mstoreI(S:St M h0 h L G){i n:Nat}(a:L[i]? =some (b,.map es c)){w:Value}{es2:List (Value×Value×Nat)}(e:fK n w es=some es2):
 ∃h',ku h (.map (some b)) (.int .i64 (Int.ofNat n)) w=some h'/\Mo (· =b) h h'/\St M h0 h' (L.set i (b,.map es2 c)) G:=by
 have d:h.get b=some (.map es c):=(S.own _ (Xb a)).2
 refine⟨h.put b (.map es2 c),?_,(Mo.refl (M:=(· =b)) S.ok).put (.inr rfl) _,S.put a (o':=.map es2 c) (lB d)⟩
 simp only [ku,d,gf,e]
end
end Go.Ab

end
section
namespace Go.Ab
def jW(x:Hd):List Value:=[.int .i64 x.id,.int .i64 x.key]
theorem jC(x:Hd):(jW x).length=2:=rfl
structure dI(cs:List Value)(cap:Nat)(l:List Hd):Prop where
 len:cs.length=cap*2
 le:l.length<=cap
 at0: ∀i,i<l.length->cs[i*2]? =some (.int .i64 (l.getD i default).id)/\cs[i*2+1]? =some (.int .i64 (l.getD i default).key)
def jz(f:Int->Option Value)(l:List Hd):Prop:=(∀i,i<l.length->f (l.getD i default).id=some (.int .i64 i))/\ ∀x v,f x=some v-> ∃i,i<l.length/\x=(l.getD i default).id
section
variable{h:Hp}{bl cap i:Nat}{cs:List Value}{l:List Hd}{md:Nat}
theorem dI.ld0(c:dI cs cap l)(r:Row h bl cs md)(a:i<l.length):h.load bl (i*2) 1=some [.int .i64 (l.getD i default).id]:=r.load1 (c.at0 i a).1
theorem dI.ld1(c:dI cs cap l)(r:Row h bl cs md)(a:i<l.length):h.load bl (i*2+1) 1=some [.int .i64 (l.getD i default).key]:=r.load1 (c.at0 i a).2
theorem dI.ld2(c:dI cs cap l)(r:Row h bl cs md)(a:i<l.length):h.load bl (i*2) 2=some [.int .i64 (l.getD i default).id,.int .i64 (l.getD i default).key]:=by
 have d:=(c.at0 i a).1
 have b:=(c.at0 i a).2
 have e:=(List.getElem?_eq_some_iff.1 b).1
 rw [r.load (by omega)]
 congr 1
 rw [XU (by omega),XU (by omega)]
 simp only [XH,XQ]
 rw [(List.getElem?_eq_some_iff.1 d).2,(List.getElem?_eq_some_iff.1 b).2]
theorem th{x y:Value}(c:i*2+2<=cs.length)(j:Nat):(lay cs (i*2) [x,y])[j]? =if j=i*2 then some x else if j=i*2+1 then some y else cs[j]? :=by
 rw [jj (by simpa using c)]
 simp only [Xv,X8]
 by_cases a:j=i*2
 . subst a;simp
 . by_cases b:j=i*2+1
   . subst b;simp
   . rw [if_neg a,if_neg b,if_neg (by omega)]
theorem dI.set(c:dI cs cap l)(d:i<l.length)(x:Hd):dI (lay cs (i*2) [.int .i64 x.id,.int .i64 x.key]) cap (l.set i x):=by
 have f:=c.len
 have hle:=c.le
 have a:i*2+2<=cs.length:=by omega
 refine⟨by rw [nS (by simpa using a)];exact f,by rw [Xs];exact hle,fun j b=>?_⟩
 rw [Xs]at b
 rw [th a,th a,jD]
 by_cases e:i=j
 . subst e;simp [d]
 . rw [if_neg (by omega),if_neg (by omega),if_neg (by omega),if_neg (by omega),if_neg (by omega)]
   exact c.at0 j b
theorem dI.setKey(c:dI cs cap l)(a:i<l.length)(k:Int):dI (lay cs (i*2+1) [.int .i64 k]) cap (l.set i ⟨(l.getD i default).id,k⟩):=by
 have f:=c.len
 have hle:=c.le
 have e:lay cs (i*2+1) [.int .i64 k]=lay cs (i*2) [.int .i64 (l.getD i default).id,.int .i64 k]:=by
  refine Xo fun j=>?_
  rw [th (by omega),jj (by simp;omega)]
  simp only [Xv,X8]
  by_cases b:j=i*2
  . subst b;rw [if_neg (by omega),if_pos rfl];exact(c.at0 i a).1
  . by_cases d:j=i*2+1
    . subst d;rw [if_pos (by omega)];simp
    . rw [if_neg (by omega),if_neg b,if_neg d]
 rw [e]
 exact c.set a ⟨(l.getD i default).id,k⟩
end
theorem set_sw(l:List Hd)(i k:Nat):(l.set i (l.getD k default)).set k (l.getD i default)=sw l i k:=rfl
theorem jz.inj{f:Int->Option Value}{l:List Hd}(h:jz f l){i j:Nat}(b:i<l.length)(c:j<l.length)(e:(l.getD i default).id=(l.getD j default).id):i=j:=by
 have a:=h.1 i b
 have d:=h.1 j c
 rw [e,d]at a
 injection a with a
 injection a with _ a
 omega
theorem jz.swap{f:Int->Option Value}{l:List Hd}(h:jz f l){i k:Nat}(c:i<l.length)(g:k<l.length):
 jz (dk (dk f ((sw l i k).getD i default).id (some (.int .i64 i))) ((sw l i k).getD k default).id (some (.int .i64 k))) (sw l i k):=by
 have m:=iu l c g i
 have p:=iu l c g k
 rw [if_pos rfl]at p
 refine⟨fun j n=>?_,fun x v q=>?_⟩
 . rw [gM]at n
   have d:=iu l c g j
   unfold dk
   by_cases a:j=k
   . subst a;rw [if_pos rfl]
   . rw [if_neg a]at d
     by_cases b:j=i
     . subst b
       rw [if_neg,if_pos rfl]
       rw [if_neg a,if_pos rfl]at m
       rw [m,p]
       intro e
       exact a (h.inj g c (by omega)).symm
     . rw [if_neg b]at d
       rw [if_neg,if_neg]
       . rw [d];exact h.1 j n
       . rw [d,m]
         intro e
         split at e
         . exact b (h.inj n c (by omega))
         . rename_i r;rw [if_pos rfl]at e;exact a (h.inj n g (by omega))
       . rw [d,p]
         intro e
         exact b (h.inj n c (by omega))
 . unfold dk at q
   by_cases a:x=((sw l i k).getD k default).id
   . exact⟨k,by rw [gM];exact g,a⟩
   . rw [if_neg a]at q
     by_cases b:x=((sw l i k).getD i default).id
     . exact⟨i,by rw [gM];exact c,b⟩
     . rw [if_neg b]at q
       obtain⟨j,n,e⟩:=h.2 x v q
       refine⟨j,by rw [gM];exact n,?_⟩
       have d:=iu l c g j
       by_cases r:j=k
       . subst r
         exfalso
         rw [e]at b
         by_cases o:i=j
         . subst o;rw [if_pos rfl]at m;exact b (by rw [m])
         . rw [if_neg o,if_pos rfl]at m;exact b (by rw [m])
       . by_cases o:j=i
         . subst o;exfalso;rw [p]at a;exact a e
         . rw [if_neg r,if_neg o]at d;rw [d];exact e
structure ff(h:Hp)(bh bl bm cap:Nat)(n:Int)(l:List Hd):Prop where
 row:Row h bh [.slice (some ⟨bl,0,some 2⟩) l.length cap,.map (some bm),.int .i64 n] 1
 ex: ∃cs es c f,Row h bl cs 1/\h.get bm=some (.map es c)/\dI cs cap l/\c7 es c f/\jz f l
 ne:bh≠bl/\bh≠bm/\bl≠bm
theorem ff.mo{M:Nat->Prop}{h h':Hp}{e i j cap:Nat}{n:Int}{l:List Hd}(r:ff h e i j cap n l)(g:Mo M h h')(m: ¬M e)(p: ¬M i)(h3: ¬M j):ff h' e i j cap n l:=by
 obtain⟨q,k,c,f,a,b,d⟩:=r.ex
 exact⟨g.has (o:=.row _ 1) r.row m,⟨q,k,c,f,g.has (o:=.row _ 1) a p,g.has (o:=.map k c) b h3,d⟩,r.ne⟩
theorem ff.mo1{M:Nat->Prop}{h h':Hp}{a b d cap:Nat}{n:Int}{l:List Hd}(r:ff h a b d cap n l)(g:Mo M h h')(e: ∀c,c=a\/c=b\/c=d-> ¬M c):ff h' a b d cap n l:=
 r.mo g (e _ (.inl rfl)) (e _ (.inr (.inl rfl))) (e _ (.inr (.inr rfl)))
theorem ff.lt{h:Hp}(e:h.t.Sized h.n){g i j cap:Nat}{n:Int}{l:List Hd}(r:ff h g i j cap n l): ∀c,c=g\/c=i\/c=j->c<h.n:=by
 obtain⟨k,m,c,f,a,b,d⟩:=r.ex
 rintro c (rfl|rfl|rfl)
 . exact r.row.lt e
 . exact a.lt e
 . exact fF e b
theorem ff.gr{h h':Hp}{a b c cap:Nat}{n:Int}{l:List Hd}(r:ff h a b c cap n l)(g:Gr h h'):ff h' a b c cap n l:=r.mo (M:=NoM) g.fr (fun h=>h) (fun h=>h) (fun h=>h)
theorem St.init2{M:Nat->Prop}{h:Hp}(e:h.t.Sized h.n){a b:Nat}{o1 o2:Ob}(f:Has h a o1)(g:Has h b o2)(c:a≠b)(m1:M a)(m2:M b):St M h h [(a,o1),(b,o2)] []:=by
 refine⟨Mo.refl e,fun p d=>?_,fun _ h=>(by cases h),by simp [keys,c]⟩
 simp only [Xy,XE,or_false]at d
 rcases d with rfl|rfl
 . exact⟨.inr m1,f⟩
 . exact⟨.inr m2,g⟩
theorem St.init3{M:Nat->Prop}{h:Hp}(e:h.t.Sized h.n){a b c:Nat}{o1 o2 o3:Ob}(f:Has h a o1)(g:Has h b o2)(h3:Has h c o3)(i:a≠b)(j:a≠c)(k:b≠c)(m1:M a)(m2:M b)(m3:M c):St M h h [(a,o1),(b,o2),(c,o3)] []:=by
 refine⟨Mo.refl e,fun p d=>?_,fun _ h=>(by cases h),by simp [keys,i,j,k]⟩
 simp only [Xy,XE,or_false]at d
 rcases d with rfl|rfl|rfl
 . exact⟨.inr m1,f⟩
 . exact⟨.inr m2,g⟩
 . exact⟨.inr m3,h3⟩
end Go.Ab

end
section
namespace Go.Ab
theorem jz.push{f:Int->Option Value}{l:List Hd}(h:jz f l){x:Hd}(g:x.id∉l.map Hd.id):jz (dk f x.id (some (.int .i64 l.length))) (l++[x]):=by
 refine⟨fun i b=>?_,fun y v c=>?_⟩
 . unfold dk
   simp at b
   by_cases e:i=l.length
   . subst e
     have:(l++[x]).getD l.length default=x:=by simp [zN]
     rw [this,if_pos rfl]
   . rw [jX l _ (by omega),if_neg ?_]
     . exact h.1 i (by omega)
     . intro d
       apply g
       have a:i<l.length:=by omega
       refine List.mem_map.2 ⟨l.getD i default,?_,by omega⟩
       rw [zN,Xx a]
       exact XL a
 . unfold dk at c
   by_cases e:y=x.id
   . refine⟨l.length,by simp,?_⟩
     have:(l++[x]).getD l.length default=x:=by simp [zN]
     rw [this];exact e
   . rw [if_neg e]at c
     obtain⟨i,b,d⟩:=h.2 y v c
     exact⟨i,by simp;omega,by rw [jX l _ b];exact d⟩
theorem jz.cut{f:Int->Option Value}{l:List Hd}(h:jz f l){m:Nat}(g:l.length=m+1):jz (dk f (l.getD m default).id none) (l.take m):=by
 refine⟨fun i b=>?_,fun y v a=>?_⟩
 . rw [Xm]at b
   rw [getD_take l (by omega)]
   unfold dk
   rw [if_neg ?_]
   . exact h.1 i (by omega)
   . intro e
     have:=h.inj (i:=i) (j:=m) (by omega) (by omega) (by omega)
     omega
 . unfold dk at a
   by_cases e:y=(l.getD m default).id
   . rw [if_pos e]at a;cases a
   . rw [if_neg e]at a
     obtain⟨i,b,c⟩:=h.2 y v a
     have:i≠m:=fun d=>by subst d;exact e c
     exact⟨i,by rw [Xm];omega,by rw [getD_take l (by omega)];exact c⟩
theorem jz.setKey{f:Int->Option Value}{l:List Hd}(h:jz f l){i:Nat}(k:Int):jz f (l.set i ⟨(l.getD i default).id,k⟩):=by
 have e: ∀j,((l.set i ⟨(l.getD i default).id,k⟩).getD j default).id=(l.getD j default).id:=fun j=>by
  rw [jD]
  split
  . rename_i e;rw [e.1]
  . rfl
 refine⟨fun j a=>?_,fun y v b=>?_⟩
 . rw [e];exact h.1 j (by rwa [Xs]at a)
 . obtain⟨j,a,c⟩:=h.2 y v b
   exact⟨j,by rwa [Xs],by rw [e];exact c⟩
theorem idxF_nil:jz (fun _=>none) []:=⟨fun i a=>by simp at a,fun x v h=>by cases h⟩
theorem dI.take{cs:List Value}{cap:Nat}{l:List Hd}(c:dI cs cap l)(m:Nat):dI cs cap (l.take m):=
 ⟨c.len,Xw (by rw [Xm];omega) c.le,fun i a=>by
  rw [Xm]at a
  rw [getD_take l (by omega)]
  exact c.at0 i (by omega)⟩
theorem dI.push{cs a:List Value}{cap cap':Nat}{l:List Hd}(c:dI cs cap l){x:Hd}(d:a.length=cap'*2)(h:l.length<cap')(b: ∀j,j<l.length*2->a[j]? =cs[j]?)(f:a[l.length*2]? =some (.int .i64 x.id)/\a[l.length*2+1]? =some (.int .i64 x.key)):dI a cap' (l++[x]):=by
 refine⟨d,by simp;omega,fun i g=>?_⟩
 simp at g
 by_cases e:i=l.length
 . subst e
   have:(l++[x]).getD l.length default=x:=by simp [zN]
   rw [this];exact f
 . rw [jX l _ (by omega),b _ (by omega),b _ (by omega)]
   exact c.at0 i (by omega)
theorem xz{E:Env}{t e:TypeId}{b k len cap n:Nat}{kd:IntKind}(c:E.und t=some (.slice e))(d:E.sz e=some k)(f:n<=cap):dZ E t (.slice (some ⟨b,0,some k⟩) len cap) none (some (.int kd (n:Int))) none=some (.slice (some ⟨b,0,some k⟩) n cap):=by
 have a: ∀n:Nat,gf (n:Int)=some n:=fun n=>rfl
 simp only [dZ,c,ez,eC,a,Xh f,cond_true,d,XK,cond_false,Yh,Xn,XY,XX]
 cases XA cap 0<;>rfl
section
variable{M:Nat->Prop}{h0 h:Hp}{L:List (Nat×Ob)}{G:List GL}{E:Env}{t tx e:TypeId}{by_:Nat}{zs:List Value}
theorem St.appH{g cap:Nat}{cs:List Value}{l:List Hd}(S:St M h0 h ((g,.row cs 1)::L) G)(C:dI cs cap l)(B:E.und t=some (.slice e))(K:eS E e by_ 2 zs)(N:0<by_)(O:by_<=100)(r:dD E tx=some false){x:Hd}{D:Value}(d:aM h 2 D=some (1,jW x))(V:l.length<1000000){ts:List TypeId}:
 ∃h' w,cZ E h (t::tx::ts) (.slice (some ⟨g,0,some 2⟩) l.length cap) D=some (h',w)/\ ∃b cap' k,w=.slice (some ⟨b,0,some 2⟩) (l.length+1) cap'/\St M h0 h' ((b,.row k 1)::L) G/\dI k cap' (l++[x])/\(b=g\/h.n<=b):=by
 obtain⟨⟨i,F,rfl,a⟩,P,u⟩:=K
 have H:Row h g cs 1:=S.row m0
 have m:=C.len
 by_cases Q:l.length+1<=cap
 . obtain⟨y,I,R⟩:=H.store S.ok ono (o:=l.length*2) (vs:=jW x) (by rw [jC];omega) rfl
   refine⟨h.put g y,_,?_,g,cap,_,rfl,S.put (i:=0) rfl R,?_,.inl rfl⟩
   . simp only [cZ,r,jg,B,F,a,d]
     unfold eZ
     rw [Xh Q]
     simp only [cond_true,jW,a,Xl]
     unfold jW at I
     rw [I]
   . refine C.push (by rw [nS (by rw [jC];omega)];exact m) (by omega) (fun j U=>?_) ⟨?_,?_⟩
     . rw [jj (by rw [jC];omega),if_neg (by omega)]
     . rw [jj (by rw [jC];omega),if_pos ⟨XF _,by rw [jC];omega⟩,Nat.sub_self];rfl
     . rw [jj (by rw [jC];omega),if_pos ⟨by omega,by rw [jC];omega⟩,Nat.add_sub_cancel_left];rfl
 . have J:cap=l.length:=by have:=C.le;omega
   obtain⟨s,el,p,f,v⟩:=H
   have z:i6 s cs.length 0 (l.length*2) (jW x)=some (s.pushAll cs.length (jW x),cs.length+2):=by
    unfold i6
    rw [show l.length*2=cs.length by omega,XX,XX];rfl
   have T:=S.dead.new (x:=.cells (s.pushAll cs.length (jW x)) (cs.length+2) e 1) (o:=.row (cs++jW x) 1) (by
    refine⟨s.pushAll cs.length (jW x),e,?_,?_,fun n=>?_⟩
    . rw [Hp.get_new _ _ S.dead.ok,if_pos rfl,Xz];rfl
    . rw [Xz];exact Tr.sized_pushAll _ f
    . rw [Tr.get_pushAll _ _ _ f,XO]
      split
      . exact v n
      . rfl)
   refine⟨_,.slice (some ⟨h.n,0,some 2⟩) (l.length+1) (l.length+1),?_,h.n,l.length+1,_,rfl,T,?_,.inr (XF _)⟩
   . simp only [cZ,r,jg,B,F,a,d]
     unfold eZ
     have q:XM (l.length+1) cap=false:=by
      cases r:XM (l.length+1) cap with
      |false=>rfl
      |true=>exact absurd (lbt r) (by omega)
     rw [q]
     simp only [cond_false]
     have c:(XM ((l.length+1)*(i.bytes+1)) 70368744177664&&Nat.blt 0 i.bytes)=true:=by
      have:(l.length+1)*(i.bytes+1)<=1000000*101:=Nat.mul_le_mul (by omega) (by omega)
      rw [Xh (by omega)]
      simp only [Bool.true_and]
      rw [Ye];exact N
     have A:XA zs.length i.size=true:=by rw [u,a];rfl
     rw [c,P]
     simp only [cond_true,A]
     unfold mD
     simp only [p,a,z]
     rfl
   . refine C.push (by rw [Xz,jC];omega) (by omega) (fun j U=>?_) ⟨?_,?_⟩
     . rw [Xe (by omega)]
     . rw [Xc (by omega),show l.length*2-cs.length=0 by omega];rfl
     . rw [Xc (by omega),show l.length*2+1-cs.length=1 by omega];rfl
theorem St.appH0(S:St M h0 h L G)(n:E.und t=some (.slice e))(p:eS E e by_ 2 zs)(q:0<by_)(r:by_<=100)(s:dD E tx=some false){x:Hd}{m:Value}(d:aM h 2 m=some (1,jW x)){ts:List TypeId}:
 ∃h' w,cZ E h (t::tx::ts) (.slice none 0 0) m=some (h',w)/\ ∃b cap' f,w=.slice (some ⟨b,0,some 2⟩) 1 cap'/\St M h0 h' ((b,.row f 1)::L) G/\dI f cap' [x]/\h.n<=b:=by
 obtain⟨⟨i,j,rfl,c⟩,u,k⟩:=p
 have T:=S.new (x:=.cells (Tr.ofList (jW x)) 2 e 1) (o:=.row (jW x) 1) (oe S.ok (jW x) e 1)
 refine⟨_,.slice (some ⟨h.n,0,some 2⟩) 1 1,?_,h.n,1,_,rfl,T,⟨rfl,by simp,fun i j=>?_⟩,XF _⟩
 . simp only [cZ,s,jg,n,j,c,d]
   unfold eZ
   have g:XM (0+1) 0=false:=rfl
   rw [g]
   simp only [cond_false]
   have a:(XM ((0+1)*(i.bytes+1)) 70368744177664&&Nat.blt 0 i.bytes)=true:=by
    rw [Xh (by omega)]
    simp only [Bool.true_and]
    rw [Ye];exact q
   have l:XA zs.length i.size=true:=by rw [k,c];rfl
   rw [a,u]
   simp only [cond_true,l]
   unfold mD
   rw [show XA 0 0=true from rfl,c]
   rfl
 . have:i=0:=by simpa using j
   subst this;exact⟨rfl,rfl⟩
theorem St.rowS{i b d n cap c:Nat}{N:Int}{cs:List Value}{g:List (Value×Value×Nat)}{l:List Hd}{f:Int->Option Value}(S:St M h0 h [(b,.row cs 1),(i,.row [.slice (some ⟨b,0,some 2⟩) n cap,.map (some d),.int .i64 N] 1),(d,.map g c)] [])(C:dI cs cap l)(j:n=l.length)(k:c7 g c f)(m:jz f l):ff h i b d cap N l:=by
 subst j
 have a:=S.apart
 simp only [keys,Xt,List.map_nil,List.filterMap_nil,List.append_nil,XJ,Xy,XE,or_false,not_or]at a
 exact⟨S.row m1,⟨cs,g,c,f,S.row m0,(S.own _ m2).2,C,k,m⟩,fun e=>a.1.1 e.symm,a.2.1,a.1.2⟩
end
theorem qK{ρ:Operand->Value}{b:Bool}{t:TypeId}{a v:Operand}{h h':Hp}:bU ρ b (.store t a v) h h'=(match ρ a with| .pointer (some a)=>some (.blk a.block)|_=>none):=by
 simp only [bU,di,ij,dR,touch,cond_false]
 cases ρ a<;>first|rfl|(rename_i x;cases x<;>rfl)
theorem xq{ρ:Operand->Value}{b:Bool}{x:Operand}{ts:Array TypeId}{h h':Hp}:bU ρ b (.call ⟨.builtin .len,#[x],ts⟩) h h'=(match ρ x with| .map (some r)=>some (.blk r)| .slice (some a) _ _=>some (.blk a.block)|_=>none):=by
 simp only [bU,di,ij,dR,touch,cond_false]
 cases ρ x<;>first|rfl|(rename_i x;cases x<;>rfl)|(rename_i x _ _;cases x<;>rfl)
theorem dn_del{E:Env}{cx:Cx}{Q:ew}{a:List Oper}{q:Nat}{ps:List (Nat×Nat)}{o:Oper}{os:List Oper}{i:Nat}{k:List Fr}{l:Loc}{b:Hp->List (Nat×Tch)}{h:Hp}{t:TypeId}{m key:Value}{P:Hp->Prop}(c: ∃h',lq E h t m key=some h'/\P h')
 (d: ∀h',P h'->Run E (lim E) cx Q (.opsD a q ps os (i+1) (b h')::k) .normal (l.put o.dst (.tuple #[])) h'):DN E cx Q a q ps o os i k l b (delR E h t m key):=by
 obtain⟨h',e,f⟩:=c
 unfold delR
 rw [e]
 exact d h' f
structure bM(h:Hp)(F:List Nat)(p:Value)(N:Nat)(K:Nat->Option Int):Prop where
 ex: ∃bh bm l,p=ptrTo bh/\lz l/\gU l K/\(∀x∈l,x.id<N)/\
  ((l=[]/\F=[bh,bm]/\bh≠bm/\Row h bh [.slice none 0 0,.map (some bm),.int .i64 N] 1/\ ∃es c,h.get bm=some (.map es c)/\c7 es c (fun _=>none))\/ ∃bl cap,F=[bh,bl,bm]/\ff h bh bl bm cap N l)
theorem bM.mo{M:Nat->Prop}{h h':Hp}{F:List Nat}{p:Value}{N:Nat}{K:Nat->Option Int}(a:bM h F p N K)(g:Mo M h h')(d: ∀b∈F,¬M b):bM h' F p N K:=by
 obtain⟨j,m,l,e,n,q,r,s⟩:=a.ex
 refine⟨j,m,l,e,n,q,r,?_⟩
 rcases s with⟨t,rfl,u,v,i,c,w,x⟩|⟨y,f,rfl,k⟩
 . exact .inl ⟨t,rfl,u,g.has (o:=.row _ 1) v (d _ (by simp)),i,c,g.has (o:=.map i c) w (d _ (by simp)),x⟩
 . exact .inr ⟨y,f,rfl,k.mo g (d _ (by simp)) (d _ (by simp)) (d _ (by simp))⟩
theorem bM.gr{h h':Hp}{F:List Nat}{p:Value}{N:Nat}{K:Nat->Option Int}(a:bM h F p N K)(g:Gr h h'):bM h' F p N K:=a.mo (M:=NoM) g.fr (fun _ _ h=>h)
theorem bM.lt{h:Hp}(f:h.t.Sized h.n){F:List Nat}{p:Value}{N:Nat}{K:Nat->Option Int}(a:bM h F p N K): ∀b∈F,b<h.n:=by
 obtain⟨n,o,l,e,q,r,s,g⟩:=a.ex
 rcases g with⟨t,rfl,u,i,v,c,j,w⟩|⟨x,m,rfl,k⟩
 . intro b d
   simp at d
   rcases d with rfl|rfl
   . exact i.lt f
   . exact fF f j
 . intro b d
   simp at d
   exact k.lt f b d
theorem sW{l:List Hd}{K:Nat->Option Int}(h:gU l K){N:Nat}(a: ∀x∈l,x.id<N):l.length<=N:=by
 have:=oG N (l.map Hd.id) h.1 (fun x b=>by obtain⟨y,c,rfl⟩:=List.mem_map.1 b;exact a y c)
 simpa using this
end Go.Ab

end
section
namespace Go.Ab
def IterN(E:Env)(g:FuncId)(a post:List Value)(h0:Hp)(D:Nat->Prop)(xs:List (List Value)):Prop:=
 ∀b J Z,(∀v h,¬Z (.pan v) h)->Yld E b J Z xs-> ∀h F,ItS h0 D h F->J 0 h F->eu E g (a++[.func (.yield b) #[] #[]]++post) none h (YQ J Z xs.length)
theorem iter_useN{E:Env}{g:FuncId}{a post:List Value}{h0:Hp}{D:Nat->Prop}{xs:List (List Value)}(H:IterN E g a post h0 D xs){c:Nat}{J:Nat->Hp->List Nat->Prop}{Z:Out->Hp->Prop}(i: ∀v h,¬Z (.pan v) h)(Y:Yld E c J Z xs)
 {h:Hp} {F:List Nat} (d:Mo (fun b=> ¬D b) h0 h) (j: ∀b∈F,b<h0.n-> ¬D b) (f:J 0 h F):eu E g (a++[.func (.yield c) #[] #[]]++post) none h (YQ J Z xs.length):=
 H c J Z i Y h F ⟨d.ok,d.n,fun b e k=>d.get b e (fun l=>l k),fun b e h=>j b e h.1 h.2,(Y.lt 0 h F f).2⟩ f
theorem dn_yield{E:Env}{cx:Cx}{Q:ew}{a:List Oper}{q:Nat}{ps:List (Nat×Nat)}{o:Oper}{os:List Oper}{i:Nat}{k:List Fr}{l:Loc}{d:Hp->List (Nat×Tch)}{h0 h:Hp}{D:Nat->Prop}{e j:Nat}{J:Nat->Hp->List Nat->Prop}{Z:Out->Hp->Prop}{xs:List (List Value)}{x:List Value}{F:List Nat}
 (f: ∀v h,¬Z (.pan v) h) (Y:Yld E e J Z xs) (s:ItS h0 D h F) (g:J j h F) (m:xs[j]? =some x)
 (n: ∀h' F',J (j+1) h' F'->ItS h0 D h' F'->Mo (· ∈F) h h'->(∀b∈F',b∈F\/h.n<=b)->Run E (lim E) cx Q (.opsD a q ps os (i+1) (d h')::k) .normal (l.put o.dst (.bool true)) h')
 (k2: ∀h',Z (.ret (.bool false)) h'->h'.t.Sized h'.n->Run E (lim E) cx Q (.opsD a q ps os (i+1) (d h')::k) .normal (l.put o.dst (.bool false)) h'):DN E cx Q a q ps o os i k l d (some (.yield e x,h)):=by
 obtain⟨p,h',r,t⟩:=Y.round j x h F m g
 refine⟨p,h',r,?_⟩
 rcases t with⟨rfl,F',a,b,c⟩|⟨rfl,a,b⟩|⟨⟨v,rfl⟩,a⟩
 . exact n h' F' a (s.mo b c (Y.lt _ _ _ a).2) b c
 . exact k2 h' a b
 . exact f v h' a
def iG(h h':Hp):Prop:= ∀b,b<h.n->h'.get b=h.get b
theorem iG.load{h h':Hp}(a:h.t.Sized h.n)(g:iG h h'){b o n:Nat}{l:List Value}(e:h.load b o n=some l):h'.load b o n=some l:=by
 have:=g b (bD a e)
 unfold Hp.load at e⊢
 rw [this];exact e
theorem iG.row{h h':Hp}(a:h.t.Sized h.n)(g:iG h h'){b:Nat}{l:List Value}{md:Nat}(r:Row h b l md):Row h' b l md:=Row.of_get (g b (r.lt a)) r
theorem au.keep{α:Type}{h h':Hp}{k:Nat}{enc:α->List Value}{v:Value}{xs:List α}(a:h.t.Sized h.n)(g:iG h h')(s:au h k enc v xs):au h' k enc v xs:=by
 rcases s with s|⟨b,o,s,c,d,e,f⟩
 . exact .inl s
 . exact .inr ⟨b,o,s,c,d,e,g.load a f⟩
theorem gb.keep{h h':Hp}{v:Value}{m N:Nat}{R:Nat->List Nat}(d:h.t.Sized h.n)(g:iG h h')(r:gb h m v N R):gb h' m v N R:=by
 obtain⟨e,f,j,k,l,n,o⟩:=r
 exact⟨e,f,j,k,g.row d l,n,fun i p=>by
  obtain⟨w,a,b,c⟩:=o i p
  exact⟨w,a,b.keep d g,c⟩⟩
theorem bI.keep{h h':Hp}{m:Nat}{p:Value}{γ:Gra}(a:h.t.Sized h.n)(g:iG h h')(n:bI h m p γ):bI h' m p γ:=by
 obtain⟨b,d,e,f,i,j,k,l,c,o,q,r,s⟩:=n.ex
 exact⟨b,d,e,f,i,j,k,g.row a l,⟨c.X.keep a g,c.Y.keep a g,c.A.keep a g⟩,o.keep a g,q.keep a g,r,s⟩
theorem Gr.keep{h h':Hp}(g:Gr h h'):iG h h':=g.get
theorem iG.trans{a b c:Hp}(x:iG a b)(n:a.n<=b.n)(y:iG b c):iG a c:=fun i d=>(y i (Nat.lt_of_lt_of_le d n)).trans (x i d)
theorem ItS.keep{hq h0 h:Hp}{D:Nat->Prop}{F:List Nat}(s:ItS h0 D h F)(g:iG hq h0)(n:hq.n<=h0.n)(d: ∀c,c<hq.n->D c):iG hq h:=fun b a=>(s.data b (Nat.lt_of_lt_of_le a n) (d b a)).trans (g b a)
theorem ud{n:Int}(a:0<=n)(b:n<18446744073709551616):an .u64 n=n:=by
 obtain⟨m,rfl⟩:=Int.eq_ofNat_of_zero_le a
 show an .u64 (.ofNat m)=_
 unfold an
 simp only [hf,sgn,pw]
 have:Nat.blt m 18446744073709551616=true:=by rw [Ye];omega
 rw [this];rfl
theorem b_andU{E:Env}{t:TypeId}{x y:Operand}{N:Nat}(h:N<4294967296):bQ E .and t x y (.int .u64 (N:Int)) (.int .u64 4294967295)=some (.int .u64 (N:Int)):=by
 have a:Nat.blt N 18446744073709551616=true:=by rw [Ye];omega
 have b:Nat.land N 4294967295=N:=by
  have:=Nat.and_two_pow_sub_one_eq_mod N 32
  rw [show(2 ^32-1:Nat)=4294967295 from rfl,show(2 ^32:Nat)=4294967296 from rfl,Nat.mod_eq_of_lt h]at this
  exact this
 have c:=ud (n:=(N:Int)) (by omega) (by omega)
 have d:qy .and .u64 (.ofNat N) (.ofNat 4294967295)=some (an .u64 (.ofNat (Nat.land N 4294967295))):=by
  simp only [qy,pw]
  rw [a];rfl
 show(qy .and .u64 (.ofNat N) (.ofNat 4294967295)).map _=_
 rw [d,b]
 show some (Value.int .u64 (an .u64 (N:Int)))=_
 rw [c]
theorem b_shrU{E:Env}{t:TypeId}{x y:Operand}{kd:IntKind}{N:Nat}(h:N<4294967296):bQ E .shr t x y (.int .u64 (N:Int)) (.int kd 32)=some (.int .u64 0):=by
 have e:N/Nat.pow 2 (bif XM 32 (bitsOf .u64)then 32 else bitsOf .u64)=0:=by
  show N/4294967296=0
  exact Nat.div_eq_of_lt h
 show(rx .shr .u64 (.ofNat N) (.ofNat 32)).map _=_
 show some (Value.int .u64 (.ofNat (N/Nat.pow 2 (bif XM 32 (bitsOf .u64)then 32 else bitsOf .u64))))=_
 rw [e];rfl
end Go.Ab

end
section
namespace Go.Ab
theorem xy{E:Env}{t e:TypeId}{b n N:Nat}{kd:IntKind}(c:E.und t=some (.slice e))(d:E.sz e=some 1)(f:n<N):dZ E t (.slice (some ⟨b,0,none⟩) N N) (some (.int kd (n:Int))) none none=some (.slice (some ⟨b,n,none⟩) (N-n) (N-n)):=by
 have a: ∀n:Nat,gf (n:Int)=some n:=fun n=>rfl
 have g:XA N n=false:=by
  cases h:XA N n with
  |false=>rfl
  |true=>have:=Yc h;omega
 simp only [dZ,c,ez,eC,a,Xh (Nat.le_of_lt f),cond_true,d,XK,cond_false,g,eH,Xu,Xl]
theorem wL{E:Env}{t e:TypeId}{b n N k:Nat}{kd:IntKind}(c:E.und t=some (.slice e))(d:E.sz e=some k)(f:n<=N):dZ E t (.slice (some ⟨b,0,none⟩) N N) none (some (.int kd (n:Int))) none=some (.slice (some ⟨b,0,none⟩) n N):=by
 have a: ∀n:Nat,gf (n:Int)=some n:=fun n=>rfl
 simp only [dZ,c,ez,eC,a,Xh f,cond_true,d,XK,cond_false,eH,Xn,XY,Yh]
 cases XA N 0<;>rfl
section
variable{M:Nat->Prop}{h0 h:Hp}{L:List (Nat×Ob)}{G:List GL}{E:Env}{t e:TypeId}
theorem St.copyO(S:St M h0 h L G){i b o len cap f o2 m k:Nat}{n c:Option Nat}{cs l:List Value}(g:L[i]? =some (b,.row cs 1))(p:E.und t=some (.slice e))(q:E.sz e=some 1)(u:0<dO m len)(j:h.load f o2 (dO m len*1)=some l)(d:o+l.length<=cs.length)(hf:l.all iU=true){ts:List TypeId}:
 ∃h' w,copyV E h (t::ts) (.slice (some ⟨b,o,n⟩) len cap) (.slice (some ⟨f,o2,c⟩) m k)=some (h',w)/\w=.int .i64 (dO m len:Nat)/\St M h0 h' (L.set i (b,.row (lay cs o l) 1)) G:=by
 obtain⟨y,r,s⟩:=(S.row (Xb g)).store S.ok ono (o:=o) (vs:=l) d hf
 have a:=load_len j
 refine⟨h.put b y,_,?_,rfl,S.put g s⟩
 simp only [copyV,p,q,j]
 cases l with
 |nil=>simp at a;omega
 |cons x v=>simp only [r];rfl
end
theorem i9{a b:Nat}(h:a<=b):dO a b=a:=by unfold dO;rw [Xh h];rfl
theorem rK{a b:Nat}(h:b<=a):dO a b=b:=by
 unfold dO
 cases c:XM a b with
 |false=>rfl
 |true=>have:=lbt c;show a=b;omega
theorem su{X Z:Value}{n c k:Nat}(e:c<=k):lay (XB n X++XB k Z) n (XB c X)=XB (n+c) X++XB (k-c) Z:=by
 refine Xo fun j=>?_
 rw [jj (by simp;omega),XN,XO,XO,XN,XN,Xr,Xr,Xr,Xr,Xr]
 by_cases a:j<n
 . rw [if_neg (by omega),if_pos a,if_pos a,if_pos (by omega),if_pos (by omega)]
 . by_cases b:j<n+c
   . rw [if_pos (by omega),if_pos (by omega),if_pos b,if_pos b]
   . rw [if_neg (by omega),if_neg a,if_neg b]
     by_cases d:j-n<k
     . rw [if_pos d,if_pos (by omega)]
     . rw [if_neg d,if_neg (by omega)]
theorem qi(z:Value): ∀n,bA [z] n=XB n z
 |0=>rfl
 |n+1=>by simp [bA,qi z n,List.replicate_succ]
def ClF(O:List Nat)(f:Int->Option Value):Prop:= ∀u:Nat,f (u:Int)=if u∈O then some (.int .i64 1)else none
end Go.Ab

end
section
namespace Go.Ab
section
variable{M:Nat->Prop}{h0 h h':Hp}{L L':List (Nat×Ob)}{G G':List GL}{Fh:List Nat}
theorem St.baseF(S:St M h0 h L G)(Fh:List Nat):St (fun c=>c∈keys L G\/c∈Fh) h h L G:=
 ⟨Mo.refl S.ok,fun p a=>⟨.inr (.inl (gm a)),(S.own p a).2⟩,fun p a=>⟨(S.gown p a).1,fun b d=>.inr (.inl (eW a d))⟩,S.apart⟩
theorem St.rebaseF(S:St M h0 h L G)(e: ∀c∈Fh,h0.n<=c\/M c)(T:St (fun c=>c∈keys L G\/c∈Fh) h h' L' G'):St M h0 h' L' G':=by
 have f: ∀b,h.n<=b\/(b∈keys L G\/b∈Fh)->h0.n<=b\/M b:=fun b a=>a.elim (fun a=>.inl (Xw S.fr.n a)) (fun a=>a.elim S.key_own (e b))
 exact⟨S.fr.trans T.fr fun b a=>(a.elim S.key_own (e b)).symm,fun p d=>⟨f _ (T.own p d).1,(T.own p d).2⟩,fun p d=>⟨(T.gown p d).1,fun b a=>f b ((T.gown p d).2 b a)⟩,T.apart⟩
theorem St.callF(S:St M h0 h L G){i b:Nat}{o o':Ob}(k:L[i]? =some (b,o))(f:Mo (fun c=>c∈Fh\/c=b) h h')(m: ∀c∈Fh,(M c\/h0.n<=c)/\c∉keys L G)(q:Has h' b o'):St M h0 h' (L.set i (b,o')) G:=by
 have n:=S.own _ (Xb k)
 have l:(keys L G)[i]? =some b:=oa k
 refine⟨S.fr.trans f (fun c d=>by rcases d with d|rfl;exact(m c d).1;exact n.1.symm),fun p a=>?_,fun p a=>⟨(S.gown p a).1.of_get fun c d=>?_,(S.gown p a).2⟩,?_⟩
 . rcases kW a with rfl|⟨j,r,a⟩
   . exact⟨n.1,q⟩
   . have g:=S.own p (Xb a)
     refine⟨g.1,g.2.of_get (f.get _ (g.2.lt S.ok) fun e=>?_)⟩
     rcases e with e|e
     . exact(m _ e).2 (gm (Xb a))
     . apply r
       have s:(keys L G)[j]? =some b:=by rw [oa a];rw [e]
       exact oW S.apart s l
 . refine f.get c ((S.gown p a).1.lt S.ok d) fun e=>?_
   rcases e with e|e
   . exact(m _ e).2 (eW a d)
   . subst e
     have g:=S.apart
     unfold keys at g
     rw [Xd]at g
     exact g.2.2 c (List.mem_map.2 ⟨_,Xb k,rfl⟩) c (List.mem_filterMap.2 ⟨p,a,d⟩) rfl
 . have:keys (L.set i (b,o')) G=keys L G:=by
    unfold keys
    congr 1
    rw [List.map_set]
    refine Xo fun j=>?_
    rw [Xp]
    split
    . rename_i e;subst e
      have:=(List.getElem?_eq_some_iff.1 k).1
      rw [if_pos (by simpa using this),Xq,k];rfl
    . rfl
   rw [this];exact S.apart
theorem St.stepF(S:St M h0 h L G)(f:Mo (· ∈Fh) h h')(b: ∀c∈Fh,(M c\/h0.n<=c)/\c∉keys L G):St M h0 h' L G:=
 S.step f (fun c a=>(b c a).1) (fun c a d=>(b c d).2 a)
theorem St.permL(S:St M h0 h L G)(p:L'.Perm L):St M h0 h L' G:=
 ⟨S.fr,fun x a=>S.own x (p.mem_iff.1 a),S.gown,by
  have:(keys L' G).Perm (keys L G):=(p.map Xg).append_right _
  exact this.nodup_iff.2 S.apart⟩
end
theorem St.mono{M M':Nat->Prop}{h0 h:Hp}{L:List (Nat×Ob)}{G:List GL}(S:St M h0 h L G)(c: ∀b,M b->M' b):St M' h0 h L G:=
 ⟨S.fr.mono c,fun p a=>⟨(S.own p a).1.imp (fun h=>h) (c _),(S.own p a).2⟩,fun p a=>⟨(S.gown p a).1,fun b d=>((S.gown p a).2 b d).imp (fun h=>h) (c _)⟩,S.apart⟩
theorem Dj.exm{B:List Arc}{s N:Nat}{O:List Nat}{D:Nat->Nat}{K:Nat->Option Int}{b ex':Arc->Prop}(d:Dj B s N O D K b)(h: ∀a∈B,b a->ex' a):Dj B s N O D K ex':=
 ⟨d.i1,d.i2,d.i2f,d.i3,fun a c e f=>d.i4 a c e (fun g=>f (h a c g)),d.i5,d.nd,d.lt⟩
def noteSl:Value->Option Tch
 | .map (some r)=>some (.blk r)
 | .slice (some a) _ _=>some (.blk a.block)
 |_=>none
theorem zh{ρ:Operand->Value}{b:Bool}{x y:Operand}{ts:Array TypeId}{h h':Hp}:bU ρ b (.call ⟨.builtin .append,#[x,y],ts⟩) h h'=noteSl (ρ x):=by
 simp only [bU,di,ij,dR,touch,cond_false]
 cases ρ x<;>first|rfl|(rename_i x;cases x<;>rfl)|(rename_i x _ _;cases x<;>rfl)
theorem pair_x{x:Option Tch}:i7 x none=true:=by
 cases x with
 |none=>rfl
 |some b=>cases b<;>rfl
theorem entry_nl{i:Nat}:cu i []=none:=rfl
end Go.Ab

end
section
namespace Go.Ab
def SlW(h:Hp)(kd:IntKind)(v:Value)(xs:List Int):Prop:=(v=.slice none 0 0/\xs=[])\/ ∃b o c,v=.slice (some ⟨b,o,none⟩) xs.length c/\xs.length<=c/\h.load b o (xs.length*1)=some (xs.flatMap (encI kd))
theorem SlW.sl{h:Hp}{kd:IntKind}{v:Value}{xs:List Int}(s:SlW h kd v xs):au h 1 (encI kd) v xs:=s.imp (fun h=>h) (fun⟨b,o,c,a,d,e⟩=>⟨b,o,none,c,a,d,e⟩)
theorem SlW.low{E:Env}{h:Hp}{kd kd':IntKind}{t e:TypeId}{v:Value}{xs:List Int}(g:E.und t=some (.slice e))(j:E.sz e=some 1)(s:SlW h kd v xs){n:Nat}(a:n<=xs.length):
 ∃v',dZ E t v none (some (.int kd' (n:Int))) none=some v'/\au h 1 (encI kd) v' (xs.take n)/\ ∀c,aq v' c->aq v c:=by
 have f: ∀n:Nat,gf (n:Int)=some n:=fun n=>rfl
 rcases s with⟨rfl,rfl⟩|⟨b,o,c,rfl,k,q⟩
 . have:n=0:=by simpa using a
   subst this
   refine⟨.slice none 0 0,?_,.inl ⟨rfl,rfl⟩,fun c d=>d⟩
   simp only [dZ,g,ez,eC,f,j]
   rfl
 . refine⟨.slice (some ⟨b,o,none⟩) n c,?_,.inr ⟨b,o,none,c,?_,?_,?_⟩,fun c d=>d⟩
   . simp only [dZ,g,ez,eC,f,Xh (Xw a k),cond_true,j,XK,cond_false,Yh,eH,Xn,XY]
     by_cases d:c=0
     . subst d;rfl
     . rw [show XA c 0=false by cases c with|zero=>exact absurd rfl d|succ c=>rfl];rfl
   . rw [Xm,X9 a]
   . rw [Xm,X9 a];exact Xw a k
   . rw [Xm,X9 a]
     have:=ou q (i:=0) (m:=n*1) (by omega)
     rw [XY,XR]at this
     rw [this]
     congr 1
     refine Xo fun i=>?_
     have p: ∀l:List Int,l.flatMap (encI kd)=l.map fun x=>.int kd x:=fun l=>by
      rw [Yd,List.map_eq_flatMap,Yd];rfl
     rw [p,p,Xu,List.map_take]
end Go.Ab

end
section
namespace Go.Ab
open Go.Proofs
set_option maxRecDepth 10000
def Z0:=aj t31<|r31
def Z1:=aj t191<|r191
def Z2:=aj t99<|r99
def Z3:=aj t7<|r7
def Z4:=aj t8<|r8
def Z5:=aj t131<|r131
def Z6:=aj t339<|r339
def Z7:=aj t341<|r341
def Z8:=aj t94<|r94
def Z9:=aj t344<|r344
def Z10:=aj t114<|r114
def Z11:=aj t120<|r120
def Z12:=aj t13<|r13
def Z13:=aj t381<|r381
def Z14:=aj t203<|r203
def Z15:=aj t14<|r14
def Z16:=aj t371<|r371
def Z17:=aj t279<|r279
def Z18:=aj t28<|r28
def Z19:=aj t262<|r262
def Z20:=aj t18<|r18
def Z21:=aj t222<|r222
def Z22:=aj t102<|r102
def Tryz.FZ:=aj t1<|aj t2<|aj t3<|aj t4<|aj t45<|aj Z19<|aj t321<|t322
theorem values{h0:Hp}(c:h0.t.Sized h0.n){v:Value}(d:Fl v):Ret zM 239 [v] h0 fun r h'=>Gr h0 h'/\ ∃b,r=.func (.func 264) #[] #[ptrTo b]/\h0.n<=b/\h'.load b 0 1=some [v]:=by
 have S:=Si c
 refine ab (n:=4) (rs:=[.tmp 2]) rfl Tryz.e239 rfl rfl rfl (lbt rfl) ?_
 simp only [BS,Nat.reduceLT]
 refine ae (cK (by assumption)) S ?_;clear S;intro h b S a
 simp only [BS,LB,ac,Nat.reduceLT,Nat.reduceEqDiff]
 exact⟨S.gr,b,rfl,a,S.ld m0 rfl⟩
theorem sK{h0:Hp}(d:h0.t.Sized h0.n){v:Value}{b:Nat}{ps:List Pl}(y:h0.load b 0 1=some [v])(q:au h0 6 jk v ps)(r:ps.length<1000):
 Iter zM 264 [] [ptrTo b] h0 (fun c=>c=b\/aq v c) (ps.map fun p=>[.agg ⟨jk p⟩]):=by
 refine rW fun z J Z Y h F s k=>?_
 refine enter (n:=16) (rs:=[]) rfl Tryz.e264 rfl rfl rfl (lbt rfl) ?_
 have l:=s.load d y (.inl rfl)
 have f:=s.sl d q (fun b h=>.inr h)
 simp only [BS,LB,Nat.reduceLT,FZ,l,f.lenq]
 refine bL (fun(i:Nat) g h=>i<=ps.length/\ ∃F,ItS h0 (fun c=>c=b\/aq v c) h F/\J i h F/\g 0=.func (.yield z) #[] #[]/\g 5=v/\g 6=.int .i64 ps.length/\g 7=.int .i64 i) (fun i=>ps.length-i) ?_ 0 _ _ ?_
 . intro i A g h ⟨hi,F,s,k,r0,r5,r6,r7⟩
   by_cases hlt:i<ps.length
   . have f:=s.sl d q (fun b h=>.inr h)
     obtain⟨c,o,j,m⟩:=f.ix (kd:=.i64) encP_len hlt
     have S:=Si s.ok
     have w:an .i64 ((i:Int)+1)=((i+1:Nat):Int):=by rw [wrap64]<;>omega
     simp only [BS,LB,Nat.reduceLT,Nat.reduceEqDiff,FZ,r5,r6,r7,aK,hlt,j,m]
     refine ae aA S ?_;clear S;intro h B S t
     simp only [BS,LB,Nat.reduceLT,Nat.reduceEqDiff,jk]
     refine az (S.store (i:=0) rfl ?_ ?_ rfl rfl ?_ ono) ?_
     . exact(by exact Tryz.t262.2.1)
     . exact(by intro x e;cases e)
     . exact lbt rfl
     clear S;rintro h ⟨S,C⟩;clear C;simp only [LC,ah,lay,XC,XD,Nat.reduceAdd]at S
     simp only [BS,LB,Nat.reduceLT,Nat.reduceEqDiff,FZ,r0,S.lds (b:=B) (o:=0) (n:=6) m0 (lbt rfl)]
     refine gu Y (s.gr S.gr) (Y.gr _ _ _ _ k S.gr) (i:=i) (by simp [hlt,jk]) ?_ ?_ ?_
     . intro u D a E _ _
       simp only [BS,LB,Nat.reduceLT,Nat.reduceEqDiff,r7,w]
       exact A (i+1) _ _ (by omega) ⟨by omega,D,E,a,by simp [aa,r0],by simp [aa,r5],by simp [aa,r6],by simp [aa]⟩
     . intro u a _
       simp only [BS,LB,Nat.reduceLT,Nat.reduceEqDiff]
       exact jb rfl ⟨rfl,.inr (.inl ⟨_,rfl,a⟩)⟩
     . intro v u a
       simp only [BS]
       exact im (c9 ⟨rfl,.inr (.inr ⟨_,rfl,a⟩)⟩)
   . simp only [BS,LB,Nat.reduceLT,r6,r7,aK,hlt]
     have:i=ps.length:=by omega
     subst this
     exact dP (c9 ⟨rfl,_,rfl,rfl,.inl ⟨_,F,rfl,by simpa using k⟩⟩)
 . exact⟨by omega,F,s,k,by simp [aa,cD],by simp [aa],by simp [aa],by simp [aa]⟩
def Tryz.F0I:=aj t1<|aj t2<|aj t3<|aj t4<|aj t5<|aj t45<|aj t256<|aj Z19<|t321
def Tryz.F0J:=aj t1<|aj t2<|aj t3<|aj t4<|aj t5<|aj t24<|aj t29<|aj Z0<|aj t45<|aj Z2<|aj t256<|aj Z19<|t321
def Tryz.Fz:=aj t1<|aj t2<|aj t3<|aj t4<|aj t5<|aj t6<|aj Z3<|aj Z4<|aj t24<|aj t29<|aj Z0<|aj t45<|aj Z2<|aj Z19<|t322
def mP(f g:Nat)(v:Value)(h':Hp):Prop:= ∃d a b,∃(e:List Pl) (D:Nat->Prop),v=.func (.func d) a b/\Iter zM d a.toList b.toList h' D (e.map fun p=>[.agg ⟨jk p⟩])/\(∀p∈e,p.lo<=p.n/\p.n<p.hi)/\ ∀c,D c->c<f\/g<=c
theorem one_ok{h0:Hp}(k:h0.t.Sized h0.n){c n a d:Int}(l:a<=n)(m:n<d):
 Ret zM 182 [.int .i64 c,.int .i64 n,.int .i64 a,.int .i64 d] h0 fun v h'=>Gr h0 h'/\mP 0 h0.n v h':=by
 have S:=Si k
 refine ab (n:=16) (rs:=[.tmp 8]) rfl Tryz.e182 rfl rfl rfl (lbt rfl) ?_
 simp only [BS,LB,Nat.reduceLT,Nat.reduceEqDiff,Nat.reduceAdd,F0I]
 refine ae (co (by exact Tryz.t321.1) (by exact Tryz.e262E) (by decide) (by rfl)) S ?_;clear S;intro h b S f;simp only [LC,bA,bS,ah,Nat.reduceMul,Nat.reduceAdd,Xn,Xl,Xu,XG]at S
 simp only [BS,LB,Nat.reduceLT,Nat.reduceEqDiff]
 have q:=S.fr.n
 refine step_ret (values S.ok bq) ?_;intro v h ⟨g,b2,e,n2,l2⟩;replace S:=S.call g;clear g
 subst e
 simp only [BS,LB,ac,Nat.reduceLT,Nat.reduceEqDiff]
 have r:au h 6 jk (.slice (some ⟨b,0,none⟩) 1 1) [⟨0,0,c,n,a,d⟩]:=.inr ⟨b,0,none,1,rfl,XF _,S.lds (b:=b) (o:=0) (n:=1*6) m0 (lbt rfl)⟩
 exact⟨S.gr,_,#[],#[ptrTo b2],_,_,rfl,sK S.ok l2 r (by simp),by intro p j;simp at j;subst j;exact⟨l,m⟩,fun c i=>by rcases i with rfl|i;exact .inr (by omega);cases i;exact .inr f⟩
theorem shapes_ok{h0:Hp}(s:h0.t.Sized h0.n){γ:Gra}(a:Good γ){j k l:Value}(m:dr h0 j k l γ):
 Ret zM 184 [iF γ j k l] h0 fun v h'=>Gr h0 h'/\mP 0 h0.n v h':=by
 have S:=Si s
 have y:=a.n1
 have z:=a.n2
 have w:an .i64 ((γ.nodes:Int)+1)=((γ.nodes+1:Nat):Int):=by rw [wrap64]<;>omega
 refine ab (n:=22) (rs:=[.tmp 2]) rfl Tryz.e184 rfl rfl rfl (lbt rfl) ?_
 simp only [BS,Nat.reduceLT,iF]
 refine ae (aS (by intro x e;cases e)) S ?_;clear S;intro h b S t;simp only [ah]at S
 simp only [BS,LB,Nat.reduceLT,Nat.reduceEqDiff,Nat.reduceAdd,F0J,m.X.lenq,m.Y.lenq,w,S.ld (b:=b) (o:=0) m0 rfl,S.ld (b:=b) (o:=1) m0 rfl,S.ld (b:=b) (o:=2) m0 rfl]
 refine ae (co (by exact Tryz.t321.1) (by exact Tryz.e262E) (by decide) (by rfl)) S ?_;clear S;intro h f S d;simp only [LC,bA,bS,ah,Nat.reduceMul,Nat.reduceAdd,Xn,Xl,Xu,XG]at S
 simp only [BS,LB,Nat.reduceLT,Nat.reduceEqDiff]
 have q:=S.fr.n
 refine step_ret (values S.ok bq) ?_;intro v h ⟨g,b2,e,n2',l2⟩;replace S:=S.call g;clear g
 subst e
 simp only [BS,LB,ac,Nat.reduceLT,Nat.reduceEqDiff]
 have u:au h 6 jk (.slice (some ⟨f,0,none⟩) 2 2) [⟨0,0,6,γ.X.length,γ.nodes,(γ.nodes+1:Nat)⟩,⟨0,1,6,γ.Y.length,γ.nodes,(γ.nodes+1:Nat)⟩]:=.inr ⟨f,0,none,2,rfl,XF _,S.lds (b:=f) (o:=0) (n:=2*6) m0 (lbt rfl)⟩
 refine⟨S.gr,_,#[],#[ptrTo b2],_,_,rfl,sK S.ok l2 u (by simp),?_,fun c i=>by rcases i with rfl|i;exact .inr (by omega);cases i;exact .inr d⟩
 intro p r
 have:=a.lX
 have:=a.lY
 simp at r
 rcases r with rfl|rfl<;>(simp only [];omega)
theorem nodes_ok{h0:Hp}(i:h0.t.Sized h0.n){c d f g:Value}:Ret zM 186 [.agg ⟨[g,c,d,f]⟩] h0 fun v h'=>Gr h0 h'/\ ∃b,v=.func (.func 240) #[] #[ptrTo b]/\h0.n<=b/\Row h' b [g,c,d,f] 1:=by
 have S:=Si i
 refine ab (n:=4) (rs:=[.tmp 2]) rfl Tryz.e186 rfl rfl rfl (lbt rfl) ?_
 simp only [BS,Nat.reduceLT]
 refine ae (aS (by intro x e;cases e)) S ?_;clear S;intro h b S a;simp only [ah]at S
 simp only [BS,LB,ac,Nat.reduceLT,Nat.reduceEqDiff]
 exact⟨S.gr,b,rfl,a,S.row m0⟩
theorem arcs_ok{h0:Hp}(i:h0.t.Sized h0.n){c d f g:Value}:Ret zM 189 [.agg ⟨[g,c,d,f]⟩] h0 fun v h'=>Gr h0 h'/\ ∃b,v=.func (.func 241) #[] #[ptrTo b]/\h0.n<=b/\Row h' b [g,c,d,f] 1:=by
 have S:=Si i
 refine ab (n:=4) (rs:=[.tmp 2]) rfl Tryz.e189 rfl rfl rfl (lbt rfl) ?_
 simp only [BS,Nat.reduceLT]
 refine ae (aS (by intro x e;cases e)) S ?_;clear S;intro h b S a;simp only [ah]at S
 simp only [BS,LB,ac,Nat.reduceLT,Nat.reduceEqDiff]
 exact⟨S.gr,b,rfl,a,S.row m0⟩
def plN(X Y:List Int):List Pl:=(Xk X.length).flatMap fun(i:Nat)=>[⟨i,0,7,X.getD i 0,-2147483648,2147483648⟩,⟨i,1,7,Y.getD i 0,-2147483648,2147483648⟩]
theorem plN_len(X Y:List Int):(plN X Y).length=2*X.length:=by
 unfold plN
 rw [XI]
 simp [XP]
 omega
theorem plN_at(X Y:List Int){i:Nat}(c:i<X.length):(plN X Y)[2*i]? =some ⟨i,0,7,X.getD i 0,-2147483648,2147483648⟩/\(plN X Y)[2*i+1]? =some ⟨i,1,7,Y.getD i 0,-2147483648,2147483648⟩:=by
 unfold plN
 have b: ∀(n j:Nat) (f:Nat->Pl) (k:Nat->Pl),j<n->((Xk n).flatMap fun i=>[f i,k i])[2*j]? =some (f j)/\((Xk n).flatMap fun i=>[f i,k i])[2*j+1]? =some (k j):=by
  intro n
  induction n with
  |zero=>intro j f k d;omega
  | succ n e=>
    intro j f k d
    have a:((Xk n).flatMap fun i=>[f i,k i]).length=2*n:=by rw [XI];simp [XP];omega
    rw [X6,Yf]
    by_cases h:j<n
    . rw [Xe (by omega),Xe (by omega)];exact e j f k h
    . have:j=n:=by omega
      subst this
      rw [Xc (by omega),Xc (by omega),a]
      simp
 exact b _ _ _ _ c
theorem Al{h0:Hp}(d:h0.t.Sized h0.n){l m K L:Value}{b:Nat}{X Y:List Int}(t:Row h0 b [L,l,m,K] 1)(G:au h0 1 (encI .i64) l X)(M:au h0 1 (encI .i64) m Y)(hl:X.length=Y.length)(H:X.length<1000):
 Iter zM 240 [] [ptrTo b] h0 (fun c=>c=b\/aq l c\/aq m c) ((plN X Y).map fun p=>[.agg ⟨jk p⟩]):=by
 refine rW fun N J Z u h F s r=>?_
 refine enter (n:=38) (rs:=[]) rfl Tryz.e240 rfl rfl rfl (lbt rfl) ?_
 have x:=s.load d (t.load1 (o:=1) rfl) (.inl rfl)
 simp only [BS,LB,Nat.reduceLT,Nat.reduceEqDiff,Fz,x,G.lenq]
 refine bL (fun(i:Nat) g h=>i<=X.length/\ ∃F,ItS h0 (fun c=>c=b\/aq l c\/aq m c) h F/\J (2*i) h F/\g 0=.func (.yield N) #[] #[]/\g 1=ptrTo b/\g 8=.int .i64 X.length/\g 9=.int .i64 i) (fun i=>X.length-i) ?_ 0 _ _ ?_
 . intro i O g h ⟨hi,F,s,r,r0,r1,r8,r9⟩
   by_cases hlt:i<X.length
   . have y:=s.sl d G (fun b h=>.inr (.inl h))
     have z:=s.sl d M (fun b h=>.inr (.inr h))
     have x:=s.load d (t.load1 (o:=1) rfl) (.inl rfl)
     have P:=s.load d (t.load1 (o:=2) rfl) (.inl rfl)
     obtain⟨c,o,j,A⟩:=y.ix (kd:=.i64) (dh _) hlt
     obtain⟨c2,o2,f,k⟩:=z.ix (kd:=.i64) (dh _) (i:=i) (by omega)
     have S:=Si s.ok
     have w:an .i64 ((i:Int)+1)=((i+1:Nat):Int):=by rw [wrap64]<;>omega
     simp only [BS,LB,Nat.reduceLT,Nat.reduceEqDiff,r8,r9,aK,hlt]
     refine aB (aG rfl) (q:=1024) (ps:=[]) (by kernel_rfl) ?_
     simp only [BS,LB,cls,Nat.reduceLT,Nat.reduceEqDiff,Nat.reduceAdd,Nat.reducePow,Nat.reduceDiv,Nat.reduceMod,Nat.reduceLeDiff,Fz,r1,x,P,j,f,A,k,encI]
     refine dC (co (by exact Tryz.t24.1) (by exact Tryz.e2E) (by decide) (by rfl)) S ?_;clear S;intro h e S B C;simp only [LC,bA,bS,ah,Nat.reduceMul,Nat.reduceAdd,Xn,Xl,Xu,XG]at S
     simp only [BS,LB,cls,Nat.reduceLT,Nat.reduceEqDiff,Nat.reduceAdd,Nat.reducePow,Nat.reduceDiv,Nat.reduceMod,Nat.reduceLeDiff,Xj,Fz]
     have Q:an .i64 1=1:=rfl
     have T:an .i64 2=2:=rfl
     have I:=plN_at X Y hlt
     rw [bG]
     simp only [BS,LB,Nat.reduceLT,Nat.reduceEqDiff,Nat.reduceAdd,Int.reduceToNat,Int.reduceLE,Int.reduceLT,Xj,Fz,r0,S.ld (b:=e) (o:=0) m0 rfl,S.ld (b:=e) (o:=1) m0 rfl]
     refine gu u (s.gr S.gr) (u.gr _ _ _ _ r S.gr) (i:=2*i) (by rw [Xq,I.1];simp [jk,zN,hlt]) ?_ ?_ ?_
     . intro U F2 a V D _
       have W:e∉F:=fun hm=>by have:=s.lt _ hm;omega
       have R:Row U e _ 1:=(S.row m0).of_get (D.get _ ((S.row m0).lt S.ok) W)
       have R1:=R.load1 (o:=1) rfl
       have ad:True:=trivial
       simp only [BS,LB,Nat.reduceLT,Nat.reduceEqDiff,Int.reduceAdd,Q]
       rw [bG]
       simp only [BS,LB,Nat.reduceLT,Nat.reduceEqDiff,Nat.reduceAdd,Int.reduceToNat,Int.reduceLE,Int.reduceLT,Xj,Fz,r0,R1]
       refine gu u V a (i:=2*i+1) (by rw [Xq,I.2];simp [jk,zN,show i<Y.length by omega]) ?_ ?_ ?_
       . intro h3 F3 a s3 _ _
         simp only [BS,LB,Nat.reduceLT,Nat.reduceEqDiff,Int.reduceAdd,T]
         rw [bG]
         simp only [BS,LB,Nat.reduceLT,Nat.reduceEqDiff,Int.reduceLT,r9,w]
         exact O (i+1) _ _ (by omega) ⟨by omega,F3,s3,a,by simp [aa,r0],by simp [aa,r1],by simp [aa,r8],by simp [aa]⟩
       . intro E a _
         simp only [BS,LB,Nat.reduceLT,Nat.reduceEqDiff]
         exact jb rfl ⟨rfl,.inr (.inl ⟨_,rfl,a⟩)⟩
       . intro v E a
         simp only [BS]
         exact im (c9 ⟨rfl,.inr (.inr ⟨_,rfl,a⟩)⟩)
     . intro E a _
       simp only [BS,LB,Nat.reduceLT,Nat.reduceEqDiff]
       exact jb rfl ⟨rfl,.inr (.inl ⟨_,rfl,a⟩)⟩
     . intro v E a
       simp only [BS]
       exact im (c9 ⟨rfl,.inr (.inr ⟨_,rfl,a⟩)⟩)
   . simp only [BS,LB,Nat.reduceLT,r8,r9,aK,hlt]
     have:i=X.length:=by omega
     subst this
     exact dP (c9 ⟨rfl,_,rfl,rfl,.inl ⟨_,F,rfl,by simpa [plN_len]using r⟩⟩)
 . exact⟨by omega,F,s,r,by simp [aa,cD],by simp [aa,cD,ag],by simp [aa],by simp [aa]⟩
def Tryz.Fo:=aj t1<|aj t2<|aj t3<|aj t4<|aj t5<|aj t6<|aj Z3<|aj Z4<|aj t9<|aj t24<|aj t29<|aj Z0<|aj t45<|aj Z2<|aj Z19<|aj t321<|t322
def plA(n:Nat)(A:List Arc):List Pl:=(Xk A.length).flatMap fun(i:Nat)=>[⟨i,0,9,(A.getD i default).s,0,n⟩,⟨i,1,9,(A.getD i default).t,0,n⟩,⟨i,2,10,(A.getD i default).w,0,2147483648⟩]
theorem flat3_at{α:Type}(f k l:Nat->α): ∀(n j:Nat),j<n->((Xk n).flatMap fun i=>[f i,k i,l i])[3*j]? =some (f j)/\((Xk n).flatMap fun i=>[f i,k i,l i])[3*j+1]? =some (k j)/\((Xk n).flatMap fun i=>[f i,k i,l i])[3*j+2]? =some (l j):=by
 intro n
 induction n with
 |zero=>intro j b;omega
 | succ n c=>
   intro j b
   have a:((Xk n).flatMap fun i=>[f i,k i,l i]).length=3*n:=by rw [XI];simp [XP];omega
   rw [X6,Yf]
   by_cases h:j<n
   . rw [Xe (by omega),Xe (by omega),Xe (by omega)];exact c j h
   . have:j=n:=by omega
     subst this
     rw [Xc (by omega),Xc (by omega),Xc (by omega),a]
     simp
theorem plA_len(n:Nat)(A:List Arc):(plA n A).length=3*A.length:=by
 unfold plA
 rw [XI]
 simp [XP]
 omega
theorem arcs_iter {h0:Hp} (d:h0.t.Sized h0.n) {W X m:Value} {b n:Nat} {A:List Arc} (I:Row h0 b [.int .i64 n,W,X,m] 1) (K:au h0 3 ct m A) (L:A.length<1000):
 Iter zM 241 [] [ptrTo b] h0 (fun c=>c=b\/aq m c) ((plA n A).map fun p=>[.agg ⟨jk p⟩]):=by
 refine rW fun Y J Z j h F s t=>?_
 refine enter (n:=44) (rs:=[]) rfl Tryz.e241 rfl rfl rfl (lbt rfl) ?_
 have l0:=s.load d (I.load1 (o:=0) rfl) (.inl rfl)
 have l3:=s.load d (I.load1 (o:=3) rfl) (.inl rfl)
 simp only [BS,LB,Nat.reduceLT,Nat.reduceEqDiff,Fo,l0,l3,K.lenq]
 refine bL (fun(i:Nat) k h=>i<=A.length/\ ∃F,ItS h0 (fun c=>c=b\/aq m c) h F/\J (3*i) h F/\k 0=.func (.yield Y) #[] #[]/\k 3=.int .i64 n/\k 11=m/\k 12=.int .i64 A.length/\k 13=.int .i64 i) (fun i=>A.length-i) ?_ 0 _ _ ?_
 . intro i ih k h ⟨hi,F,s,t,r0,r3,r11,r12,r13⟩
   by_cases hlt:i<A.length
   . have u:=s.sl d K (fun b h=>.inr h)
     obtain⟨c,o,q,y⟩:=u.ix (kd:=.i64) ip hlt
     have S:=Si s.ok
     have w:an .i64 ((i:Int)+1)=((i+1:Nat):Int):=by rw [wrap64]<;>omega
     have w1:an .i64 1=1:=rfl
     have w2:an .i64 2=2:=rfl
     have w3:an .i64 3=3:=rfl
     have z:=flat3_at (fun(i:Nat)=>(⟨i,0,9,(A.getD i default).s,0,n⟩:Pl)) (fun(i:Nat)=>⟨i,1,9,(A.getD i default).t,0,n⟩) (fun(i:Nat)=>⟨i,2,10,(A.getD i default).w,0,2147483648⟩) A.length i hlt
     have B:A.getD i default=A[i]:=by simp [zN,hlt]
     simp only [BS,LB,Nat.reduceLT,Nat.reduceEqDiff,Fo,r11,r12,r13,aK,hlt,q,y]
     refine ae aA S ?_;clear S;intro h C S M
     simp only [BS,LB,Nat.reduceLT,Nat.reduceEqDiff,ct]
     refine az (S.store (i:=0) rfl ?_ ?_ rfl rfl ?_ ono) ?_
     . exact(by exact Tryz.t99.2.1)
     . exact(by intro x e;cases e)
     . exact lbt rfl
     clear S;rintro h ⟨S,f⟩;clear f;simp only [LC,ah,lay,XC,XD,Nat.reduceAdd]at S
     simp only [BS,LB,Nat.reduceLT,Nat.reduceEqDiff,Nat.reduceAdd,Fo,r3,S.ld (b:=C) (o:=0) m0 rfl,S.ld (b:=C) (o:=1) m0 rfl,S.ld (b:=C) (o:=2) m0 rfl]
     refine ae (co (by exact Tryz.t321.1) (by exact Tryz.e262E) (by decide) (by rfl)) S ?_;clear S;intro h g S N;simp only [LC,bA,bS,ah,Nat.reduceMul,Nat.reduceAdd,Xn,Xl,Xu,XG]at S
     simp only [BS,LB,Nat.reduceLT,Nat.reduceEqDiff,Xj,Fo]
     have O:g∉F:=fun l=>by have:=s.lt _ l;omega
     have R:Row h g _ 1:=S.row m0
     have ad:=R.lt S.ok
     rw [bG]
     simp only [BS,LB,Nat.reduceLT,Nat.reduceEqDiff,Int.reduceToNat,Int.reduceLE,Int.reduceLT,Xj,Fo,S.lds (b:=g) (o:=0) (n:=6) m0 (lbt rfl)]
     refine ae aA S ?_;clear S;intro h b7 S P
     simp only [BS,LB,Nat.reduceLT,Nat.reduceEqDiff,XR,XH,XQ]
     refine az (S.store (i:=0) rfl ?_ ?_ rfl rfl ?_ ono) ?_
     . exact(by exact Tryz.t262.2.1)
     . exact(by intro x e;cases e)
     . exact lbt rfl
     clear S;rintro h ⟨S,f⟩;clear f;simp only [LC,ah,lay,XC,XD,Nat.reduceAdd]at S
     simp only [BS,LB,Nat.reduceLT,Nat.reduceEqDiff,Fo,r0,S.lds (b:=b7) (o:=0) (n:=6) m0 (lbt rfl)]
     have R:Row h g _ 1:=S.row m1
     refine gu j (s.gr S.gr) (j.gr _ _ _ _ t S.gr) (i:=3*i) (by rw [Xq,show(plA n A)[3*i]? =_ from z.1,B];simp [jk]) ?_ ?_ ?_
     . intro h2 F2 a Q D E
       have R0:=R
       replace R:Row h2 g _ 1:=R.of_get (D.get _ (R.lt S.ok) O)
       have G:g∉F2:=fun l=>by
        rcases E _ l with l|l
        . exact O l
        . have:=R0.lt S.ok;omega
       have S:=Si Q.ok
       simp only [BS,LB,Nat.reduceLT,Nat.reduceEqDiff,Int.reduceAdd,w1]
       rw [bG]
       simp only [BS,LB,Nat.reduceLT,Nat.reduceEqDiff,Int.reduceToNat,Int.reduceLE,Int.reduceLT,Xj,Nat.reduceMul,Fo,R.load (o:=6) (n:=6) (lbt rfl)]
       refine ae aA S ?_;clear S;intro h b8 S T
       simp only [BS,LB,Nat.reduceLT,Nat.reduceEqDiff,Yg,XR,XH,XQ]
       refine az (S.store (i:=0) rfl ?_ ?_ rfl rfl ?_ ono) ?_
       . exact(by exact Tryz.t262.2.1)
       . exact(by intro x e;cases e)
       . exact lbt rfl
       clear S;rintro h ⟨S,f⟩;clear f;simp only [LC,ah,lay,XC,XD,Nat.reduceAdd]at S
       simp only [BS,LB,Nat.reduceLT,Nat.reduceEqDiff,Fo,r0,S.lds (b:=b8) (o:=0) (n:=6) m0 (lbt rfl)]
       replace R:=R.gr S.gr
       refine gu j (Q.gr S.gr) (j.gr _ _ _ _ a S.gr) (i:=3*i+1) (by rw [Xq,show(plA n A)[3*i+1]? =_ from z.2.1,B];simp [jk]) ?_ ?_ ?_
       . intro h3 F3 a U H af
         replace R:Row h3 g _ 1:=R.of_get (H.get _ (R.lt S.ok) G)
         have S:=Si U.ok
         simp only [BS,LB,Nat.reduceLT,Nat.reduceEqDiff,Int.reduceAdd,w2]
         rw [bG]
         simp only [BS,LB,Nat.reduceLT,Nat.reduceEqDiff,Int.reduceToNat,Int.reduceLE,Int.reduceLT,Xj,Nat.reduceMul,Fo,R.load (o:=12) (n:=6) (lbt rfl)]
         refine ae aA S ?_;clear S;intro h b9 S V
         simp only [BS,LB,Nat.reduceLT,Nat.reduceEqDiff,Yg,XR,XH,XQ]
         refine az (S.store (i:=0) rfl ?_ ?_ rfl rfl ?_ ono) ?_
         . exact(by exact Tryz.t262.2.1)
         . exact(by intro x e;cases e)
         . exact lbt rfl
         clear S;rintro h ⟨S,f⟩;clear f;simp only [LC,ah,lay,XC,XD,Nat.reduceAdd]at S
         simp only [BS,LB,Nat.reduceLT,Nat.reduceEqDiff,Fo,r0,S.lds (b:=b9) (o:=0) (n:=6) m0 (lbt rfl)]
         refine gu j (U.gr S.gr) (j.gr _ _ _ _ a S.gr) (i:=3*i+2) (by rw [Xq,show(plA n A)[3*i+2]? =_ from z.2.2,B];simp [jk]) ?_ ?_ ?_
         . intro h4 F4 a s4 ai ak
           simp only [BS,LB,Nat.reduceLT,Nat.reduceEqDiff,Int.reduceAdd,w3]
           rw [bG]
           simp only [BS,LB,Nat.reduceLT,Nat.reduceEqDiff,Int.reduceLT,r13,w]
           exact ih (i+1) _ _ (by omega) ⟨by omega,F4,s4,a,by simp [aa,r0],by simp [aa,r3],by simp [aa,r11],by simp [aa,r12],by simp [aa]⟩
         . intro r a _
           simp only [BS,LB,Nat.reduceLT,Nat.reduceEqDiff]
           exact jb rfl ⟨rfl,.inr (.inl ⟨_,rfl,a⟩)⟩
         . intro v r a
           simp only [BS]
           exact im (c9 ⟨rfl,.inr (.inr ⟨_,rfl,a⟩)⟩)
       . intro r a _
         simp only [BS,LB,Nat.reduceLT,Nat.reduceEqDiff]
         exact jb rfl ⟨rfl,.inr (.inl ⟨_,rfl,a⟩)⟩
       . intro v r a
         simp only [BS]
         exact im (c9 ⟨rfl,.inr (.inr ⟨_,rfl,a⟩)⟩)
     . intro r a _
       simp only [BS,LB,Nat.reduceLT,Nat.reduceEqDiff]
       exact jb rfl ⟨rfl,.inr (.inl ⟨_,rfl,a⟩)⟩
     . intro v r a
       simp only [BS]
       exact im (c9 ⟨rfl,.inr (.inr ⟨_,rfl,a⟩)⟩)
   . simp only [BS,LB,Nat.reduceLT,r12,r13,aK,hlt]
     have:i=A.length:=by omega
     subst this
     exact dP (c9 ⟨rfl,_,rfl,rfl,.inl ⟨_,F,rfl,by simpa [plA_len]using t⟩⟩)
 . exact⟨by omega,F,s,t,by simp [aa,cD],by simp [aa],by simp [aa],by simp [aa],by simp [aa]⟩
def Tryz.F0K:=aj t1<|aj t2<|aj t3<|aj t24<|aj t29<|aj Z0<|aj t45<|aj Z2<|t256
def Tryz.F0L:=aj t1<|aj t2<|aj t3<|aj t24<|aj t29<|aj Z0<|aj Z2<|t256
def Tryz.F0M:=aj t1<|aj t2<|aj t3<|aj t24<|aj t29<|aj Z0<|aj t45<|aj Z2<|t256
def Tryz.F0N:=aj t1<|aj t2<|aj t3<|aj t24<|aj t29<|aj Z0<|aj Z2<|t256
def Tryz.F0O:=aj t1<|aj t2<|aj t3<|aj t24<|aj t29<|aj Z0<|aj Z2<|t256
theorem look1_ok{h0:Hp}(c:h0.t.Sized h0.n){γ:Gra}(a:Good γ){d e f:Value}{b:Nat}(i:Row h0 b [.int .i64 γ.nodes,d,e,f] 1):Ret zM 181 [ptrTo b] h0 fun v h'=>Gr h0 h'/\mP 0 h0.n v h':=by
 have S:=Si c
 have j:=a.n1
 have k:=a.n2
 refine ab (n:=5) (rs:=[.tmp 1]) rfl Tryz.e181 rfl rfl rfl (lbt rfl) ?_
 simp only [BS,LB,Nat.reduceLT,Nat.reduceEqDiff,F0K,i.load1 (o:=0) rfl]
 refine step_ret (one_ok S.ok (by omega) (by omega)) ?_;intro v h ⟨g,t⟩;replace S:=S.call g;clear g
 simp only [BS,LB,ac,Nat.reduceLT,Nat.reduceEqDiff]
 exact⟨S.gr,t⟩
theorem look2_ok{h0:Hp}(f:h0.t.Sized h0.n){γ:Gra}(a:Good γ){c d e:Value}(i:dr h0 c d e γ){b:Nat}(j:Row h0 b [.int .i64 γ.nodes,c,d,e] 1):Ret zM 183 [ptrTo b] h0 fun v h'=>Gr h0 h'/\mP 0 h0.n v h':=by
 have S:=Si f
 refine ab (n:=4) (rs:=[.tmp 1]) rfl Tryz.e183 rfl rfl rfl (lbt rfl) ?_
 simp only [BS,LB,Nat.reduceLT,Nat.reduceEqDiff,F0L,j.load (o:=0) (n:=4) (lbt rfl)]
 refine step_ret (shapes_ok S.ok a i) ?_;intro v h ⟨g,t⟩;replace S:=S.call g;clear g
 simp only [BS,LB,ac,Nat.reduceLT,Nat.reduceEqDiff]
 exact⟨S.gr,t⟩
theorem look4_ok{h0:Hp}(f:h0.t.Sized h0.n){γ:Gra}(a:Good γ){c d e:Value}(i:dr h0 c d e γ){b:Nat}(j:Row h0 b [.int .i64 γ.nodes,c,d,e] 1):Ret zM 187 [ptrTo b] h0 fun v h'=>Gr h0 h'/\mP 0 h0.n v h':=by
 have S:=Si f
 have k:=a.many
 refine ab (n:=6) (rs:=[.tmp 1]) rfl Tryz.e187 rfl rfl rfl (lbt rfl) ?_
 simp only [BS,LB,Nat.reduceLT,Nat.reduceEqDiff,F0M,j.load1 (o:=3) rfl,i.A.lenq]
 refine step_ret (one_ok S.ok (by omega) (by omega)) ?_;intro v h ⟨g,t⟩;replace S:=S.call g;clear g
 simp only [BS,LB,ac,Nat.reduceLT,Nat.reduceEqDiff]
 exact⟨S.gr,t⟩
theorem look3_ok{h0:Hp}(t:h0.t.Sized h0.n){γ:Gra}(a:Good γ){j k q:Value}(r:dr h0 j k q γ){b l:Nat}(u: ∀c,aq j c->c<l)(w: ∀c,aq k c->c<l)(x:Row h0 b [.int .i64 γ.nodes,j,k,q] 1):Ret zM 185 [ptrTo b] h0 fun v h'=>Gr h0 h'/\mP l h0.n v h':=by
 have S:=Si t
 have y:=a.n2
 have z:=a.lX
 have A:=a.lY
 refine ab (n:=4) (rs:=[.tmp 1]) rfl Tryz.e185 rfl rfl rfl (lbt rfl) ?_
 simp only [BS,LB,Nat.reduceLT,Nat.reduceEqDiff,F0N,x.load (o:=0) (n:=4) (lbt rfl)]
 refine step_ret (nodes_ok S.ok) ?_;intro v h ⟨g,b2,e,q2,R⟩;replace S:=S.call g;clear g
 subst e
 simp only [BS,LB,ac,Nat.reduceLT,Nat.reduceEqDiff]
 refine⟨S.gr,_,#[],#[ptrTo b2],_,_,rfl,Al S.ok R (r.X.gr S.gr) (r.Y.gr S.gr) (by omega) (by omega),fun p m=>?_,fun c d=>?_⟩
 . unfold plN at m
   simp only [List.mem_flatMap,Yb,Xy,XE,or_false]at m
   obtain⟨i,s,rfl|rfl⟩:=m
   . have:=a.cX γ.X[i] (XL s)
     simp only [zN,Xx s,XZ];omega
   . have f:i<γ.Y.length:=by omega
     have:=a.cY γ.Y[i] (XL f)
     simp only [zN,Xx f,XZ];omega
 . rcases d with rfl|d|d
   . exact .inr q2
   . exact .inl (u c d)
   . exact .inl (w c d)
theorem look5_ok{h0:Hp}(r:h0.t.Sized h0.n){γ:Gra}(a:Good γ){k l d:Value}(s:dr h0 k l d γ){b m:Nat}(t: ∀c,aq d c->c<m)(u:Row h0 b [.int .i64 γ.nodes,k,l,d] 1):Ret zM 188 [ptrTo b] h0 fun v h'=>Gr h0 h'/\mP m h0.n v h':=by
 have S:=Si r
 have w:=a.many
 refine ab (n:=4) (rs:=[.tmp 1]) rfl Tryz.e188 rfl rfl rfl (lbt rfl) ?_
 simp only [BS,LB,Nat.reduceLT,Nat.reduceEqDiff,F0O,u.load (o:=0) (n:=4) (lbt rfl)]
 refine step_ret (arcs_ok S.ok) ?_;intro v h ⟨g,b2,e,q2,R⟩;replace S:=S.call g;clear g
 subst e
 simp only [BS,LB,ac,Nat.reduceLT,Nat.reduceEqDiff]
 refine⟨S.gr,_,#[],#[ptrTo b2],_,_,rfl,arcs_iter S.ok R (s.A.gr S.gr) (by omega),fun p f=>?_,fun c j=>?_⟩
 . unfold plA at f
   simp only [List.mem_flatMap,Yb,Xy,XE,or_false]at f
   obtain⟨i,q,h⟩:=f
   have:=a.arcs γ.arcs[i] (XL q)
   simp only [zN,Xx q,XZ]at h
   rcases h with rfl|rfl|rfl<;>(simp only [];omega)
 . rcases j with rfl|j
   . exact .inr q2
   . exact .inl (t c j)
def Tryz.FA:=aj t1<|aj t2<|aj t3<|aj t4<|aj t5<|aj t6<|aj Z3<|aj Z4<|aj t17<|aj t19<|aj r19<|aj t20<|aj t24<|aj t29<|aj Z0<|aj t45<|aj Z2<|aj Z22<|aj t104<|aj t183<|aj r183<|aj t256<|aj t258<|aj t260<|aj Z19<|Z13
theorem look_ok {h0:Hp} (u:h0.t.Sized h0.n) {γ:Gra} (k:Good γ) {Y Z va:Value} (z:dr h0 Y Z va γ):Ret zM 100 [iF γ Y Z va] h0 fun v h'=>Gr h0 h':=by
 have S:=Si u
 refine ab (n:=44) (rs:=[]) rfl Tryz.e100 rfl rfl rfl (lbt rfl) ?_
 simp only [BS,Nat.reduceLT,iF]
 refine ae (aS (by intro x e;cases e)) S ?_;clear S;intro h b S ak;simp only [ah]at S
 simp only [BS,LB,Nat.reduceLT,Nat.reduceEqDiff]
 refine ae (co (by exact Tryz.t260.1) (by exact Tryz.e258E) (by decide) (by rfl)) S ?_;clear S;intro h bs S ad;simp only [LC,bA,bS,ah,Nat.reduceMul,Nat.reduceAdd,Xn,Xl,Xu,XG]at S
 simp only [BS,LB,Nat.reduceLT,Nat.reduceEqDiff,Xj,FA]
 have O: ∀i,i<5-> ∃g a c,[Value.func (.func 181) #[] #[.pointer (some ⟨b,0,none⟩)],.func (.func 183) #[] #[.pointer (some ⟨b,0,none⟩)],.func (.func 185) #[] #[.pointer (some ⟨b,0,none⟩)],.func (.func 187) #[] #[.pointer (some ⟨b,0,none⟩)],.func (.func 188) #[] #[.pointer (some ⟨b,0,none⟩)]][i]? =some (.func (.func g) a c)/\
  ∀h',Gr h h'->Ret zM g (a.toList++c.toList) h' fun v j=>Gr h' j/\mP h0.n h'.n v j:=by
  intro i hi
  have r:=S.row (b:=b) m1
  have q:=z.gr S.gr
  have P: ∀h' v j,Gr h' j/\mP 0 h'.n v j->Gr h' j/\mP h0.n h'.n v j:=by
   rintro h' v j ⟨a,Q,a1,R,H,D,b1,b2,b3,A⟩
   exact⟨a,Q,a1,R,H,D,b1,b2,b3,fun c s=>(A c s).elim (fun h=>by omega) .inr⟩
  match i,hi with
  |0,_=>exact⟨_,_,_,rfl,fun h' g=>qH (look1_ok g.ok k (r.gr g)) (P h')⟩
  |1,_=>exact⟨_,_,_,rfl,fun h' g=>qH (look2_ok g.ok k (q.gr g) (r.gr g)) (P h')⟩
  |2,_=>exact⟨_,_,_,rfl,fun h' g=>look3_ok g.ok k (q.gr g) (fun c s=>z.X.lt u s) (fun c s=>z.Y.lt u s) (r.gr g)⟩
  |3,_=>exact⟨_,_,_,rfl,fun h' g=>qH (look4_ok g.ok k (q.gr g) (r.gr g)) (P h')⟩
  |4,_=>exact⟨_,_,_,rfl,fun h' g=>look5_ok g.ok k (q.gr g) (fun c s=>z.A.lt u s) (r.gr g)⟩
 have I:=S.row (b:=bs) m0
 have g0:=S.gr
 have B:=S.ok
 clear S z u
 revert O I
 generalize [Value.func (.func 181) #[] #[.pointer (some ⟨b,0,none⟩)],.func (.func 183) #[] #[.pointer (some ⟨b,0,none⟩)],.func (.func 185) #[] #[.pointer (some ⟨b,0,none⟩)],.func (.func 187) #[] #[.pointer (some ⟨b,0,none⟩)],.func (.func 188) #[] #[.pointer (some ⟨b,0,none⟩)]]=fs
 intro O I
 rename Hp=>C
 have al:=I.lt B
 have ax:=g0.n
 have S:=Si B
 refine rh (fun(i:Nat) J d h'=>i<=5/\ ∃f:List Nat,d=f.map qx/\St NoM C h' (ey f) []/\J 10=.slice (some ⟨bs,0,none⟩) 5 5/\J 11=.int .i64 5/\J 12=.int .i64 i) (fun i=>5-i) ?_ 0 _ _ _ ?_
 . clear S
   intro i ih J d h ⟨hi,f,K,S,r10,r11,r12⟩
   have w:an .i64 ((i:Int)+1)=((i+1:Nat):Int):=by rw [wrap64]<;>omega
   by_cases hlt:i<5
   . obtain⟨g,a,c,T,r⟩:=O i hlt
     have Rl:=(I.gr S.gr).load1 T
     have l:(i:Int)<5:=by omega
     simp only [BS,LB,Nat.reduceLT,Nat.reduceEqDiff,FA,r10,r11,r12,l,hlt,Rl]
     refine ae aA S ?_;clear S;intro h b2 S af
     simp only [BS,LB,Nat.reduceLT,Nat.reduceEqDiff]
     refine az (aC S (i:=0) rfl ?_ ?_ ?_ ono) ?_
     . exact(by simp only [FA])
     . exact(by exact aY)
     . exact XT (lbt rfl)
     clear S;rintro h ⟨S,U⟩;clear U;simp only [LC,ah,lay,XC,XD,Nat.reduceAdd]at S
     simp only [BS,LB,Nat.reduceLT,Nat.reduceEqDiff]
     replace S:=S.drop1
     have kl: ∀b∈keys (ey f) [],b<h.n:=fun b m=>S.key_lt m
     refine step_ret (r _ S.gr) ?_;intro v h ⟨g,Q,R,post,H,D,e,it,hps,hD⟩;replace S:=S.call g;clear g
     subst e
     simp only [BS]
     refine kQ S (g:=Q) (a:=R) (b:=post) (by simp [cb,aa]) rfl rfl ?_
     intro M E G t ay aL g2
     obtain⟨X,hX,t⟩: ∃X:gW,X=_/\St NoM C M ((G,.loop X)::(E,.dfr)::ey f) []:=⟨_,rfl,t⟩
     have hJ:Yld zM G (fun _ h' F=>St NoM C h' ((G,.loop X)::(E,.dfr)::ey f) []/\F=keys ((G,.loop X)::(E,.dfr)::ey f) []) (fun _ _=>False) (H.map fun p=>[.agg ⟨jk p⟩]):=by
      refine⟨?_,?_,fun _ _ h=>h.elim,?_⟩
      . rintro i h F ⟨S,rfl⟩;exact⟨S.ok,fun b m=>S.key_lt m⟩
      . rintro i h F h' ⟨S,rfl⟩ g;exact⟨S.call g,rfl⟩
      . rintro i x h F hx ⟨S,rfl⟩
        obtain⟨p,hp,rfl⟩: ∃p∈H,x=[.agg ⟨jk p⟩]:=by
         rw [Xq,Option.map_eq_some_iff]at hx
         obtain⟨p,C,M⟩:=hx
         exact⟨p,Xb C,M.symm⟩
        obtain⟨p1,p2⟩:=hps p hp
        have V: ¬p.n<p.lo:=by omega
        have W: ¬p.hi<=p.n:=by omega
        subst hX
        refine kU (S.get m0) (by rw [Tryz.e100];rfl) rfl ?_
        have S0:=S
        replace S:=S.base
        simp only [BS,FA]
        refine ae aA S ?_;clear S;intro h A S ai
        simp only [BS,LB,Nat.reduceLT,Nat.reduceEqDiff,jk]
        refine az (S.store (i:=0) rfl ?_ ?_ rfl rfl ?_ ono) ?_
        . exact(by exact Tryz.t262.2.1)
        . exact(by intro x e;cases e)
        . exact lbt rfl
        clear S;rintro h ⟨S,U⟩;clear U;simp only [LC,ah,lay,XC,XD,Nat.reduceAdd]at S
        simp only [BS]
        refine jQ S (i:=1) rfl rfl rfl rfl rfl ?_
        clear S;intro h S
        simp only [BS,LB,Nat.reduceLT,Nat.reduceEqDiff,FA,V,W,S.ld (b:=A) (o:=3) m0 rfl,S.ld (b:=A) (o:=4) m0 rfl,S.ld (b:=A) (o:=5) m0 rfl]
        refine gT S (i:=1) rfl ?_
        clear S;intro h S
        exact .inl ⟨rfl,_,⟨S0.rebase S.drop1,rfl⟩,S.fr,S.drop1.key_new⟩
     refine fk (yE it hJ (h:=M) (F:=keys ((G,.loop _)::(E,.dfr)::ey f) []) g2.fr (fun b m hlt=>?_) ⟨t,rfl⟩) fun o rc h' y=>mS y ?_
     . intro K
       have N:=t.key_own m
       rcases hD b K with hh|hh
       . rcases N with N|N
         . omega
         . exact N
       . rcases List.mem_cons.1 m with rfl|m
         . omega
         . rcases List.mem_cons.1 m with rfl|m
           . omega
           . have:=kl b m;omega
     . rintro F ⟨S,rfl⟩
       subst hX
       refine⟨_,S.get m0,Nat.zero_ne_one,?_⟩
       replace S:=S.dead
       show Run _ _ _ _ _ _ _ _
       simp only [BS,LB,Nat.reduceLT,Nat.reduceEqDiff,r12,w]
       exact ih (i+1) _ _ _ (by omega) ⟨by omega,E::f,by rw [K];rfl,S,by simp [aa,r10],by simp [aa,r11],by simp [aa]⟩
   . have l: ¬(i:Int)<5:=by omega
     simp only [BS,LB,Nat.reduceLT,r11,r12,l]
     subst K
     refine dP (kK f h (L:=[]) (by rw [List.append_nil];exact S) fun h' t=>⟨rfl,_,rfl,g0.trans t.gr⟩)
 . exact⟨by omega,[],rfl,S,by simp [aa],by simp [aa],by simp [aa]⟩
end Go.Ab
end
section
namespace Go.Ab
theorem au.form{α:Type}{h:Hp}{k:Nat}{enc:α->List Value}{v:Value}{xs:List α}(s:au h k enc v xs): ∃a n c,v=.slice a n c:=by
 rcases s with⟨rfl,_⟩|⟨b,o,s,c,rfl,_⟩<;>exact⟨_,_,_,rfl⟩
section
variable{M:Nat->Prop}{h0 h:Hp}{E:Env}{L:List (Nat×Ob)}{G:List GL}
def WrK{α:Type}(h:Hp)(k:Nat)(enc:α->List Value)(w:Value)(l:List α):Prop:=l≠ []-> ∃b,w=.slice (some ⟨b,0,some k⟩) l.length l.length/\Row h b (l.flatMap enc) 1
theorem WrK.mo{α:Type}{M:Nat->Prop}{h h':Hp}{k:Nat}{enc:α->List Value}{w:Value}{l:List α}(r:WrK h k enc w l)(g:Mo M h h')(a: ∀b,aq w b-> ¬M b):WrK h' k enc w l:=
 fun c=>by obtain⟨b,e,k⟩:=r c;exact⟨b,e,g.has (o:=.row _ 1) k (a b (by rw [e];rfl))⟩
theorem St.cloneW{α:Type}{enc:α->List Value}{ys:List α}(S:St M h0 h L G){t g e:TypeId}{a k md:Nat}{y:List Value}{b:Nat}{x:Value}(l:E.und t=some (.slice e))(m:eS E e a k y)(o:0<a)
 (p:dD E g=some false) (q:au h k enc x ys) (d: ∀x,(enc x).length=k) (r:0<k) (f:(ys.length*k)*(a+1)<=70368744177664) {ts:List TypeId}
 (s:Row h b [] md):
 ∃h' v',cZ E h (t::g::ts) (.slice (some ⟨b,0,none⟩) 0 0) x=some (h',v')/\St M h0 h' L G/\Gr h h'/\au h' k enc v' ys/\(∀c,aq v' c->c=b\/h.n<=c)/\WrK h' k enc v' ys:=by
 obtain⟨h',v',u,z,A,B,C⟩:=S.cloneSl (enc:=enc) (xs:=[]) l m o p q d r (by simpa using f) (ts:=ts) (b:=b) (md:=md) (by simpa using s)
 refine⟨h',v',u,z,A,by simpa using B,C,fun i=>?_⟩
 obtain⟨D,F,v,H⟩:=S.clone l m o p q.src (bw d ys).symm (n:=0) (by simp) r (by rw [bw d];simpa using f) (ts:=ts) s
 have j:cZ E h (t::g::ts) (.slice (some ⟨b,0,none⟩) 0 0) x=some (h',v'):=u
 rw [j]at v
 cases v
 rcases H with⟨I,_⟩|⟨w,J,T⟩
 . exact absurd (List.length_eq_zero_iff.1 I) i
 . refine⟨w,by rw [J,Xl],?_⟩
   have:=T.row (b:=w) m0
   simpa using this
end
end Go.Ab

end
section
namespace Go.Ab
open Go.Proofs
set_option maxRecDepth 10000
def Tryz.F0P:=aj t1<|aj t2<|aj t3<|aj t4<|aj t5<|aj t20<|aj t41<|aj Z22<|aj t104<|aj t183<|r183
def Tryz.F00:=aj t1<|aj t2<|aj t3<|aj t24<|aj t29<|aj Z0<|aj t41<|Z2
def Tryz.F0e:=aj t1<|aj t2<|aj t3<|aj t4<|t24
def Tryz.F0f:=aj t1<|aj t2<|aj t3<|aj t4<|aj t29<|Z2
theorem check1_ok{h0:Hp}(a:h0.t.Sized h0.n){b:Nat}:eu zM 99 [ptrTo b] none h0 fun o c h'=>(∃v,o=.ret v)/\c=none/\Gr h0 h':=by
 have S:=Si a
 refine enter (n:=17) (rs:=[]) rfl Tryz.e99 rfl rfl rfl (lbt rfl) ?_
 simp only [BS,LB,Nat.reduceLT,Nat.reduceEqDiff,F0P]
 exact dP (c9 ⟨rfl,_,rfl,⟨_,rfl⟩,rfl,S.gr⟩)
theorem check_ok{h0:Hp}(m:h0.t.Sized h0.n){γ:Gra}(c:Good γ){d f j:Value}(p:dr h0 d f j γ):bz zM 43 [iF γ d f j] h0 .nilIface:=by
 have S:=Si m
 refine ab (n:=6) (rs:=[.cell 2 41]) rfl Tryz.e43 rfl rfl rfl (lbt rfl) ?_
 simp only [BS,Nat.reduceLT,iF]
 refine ae (aS (by intro x e;cases e)) S ?_;clear S;intro h b S q;simp only [ah]at S
 simp only [BS,F00]
 refine ae aA S ?_;clear S;intro h r S k
 simp only [BS,LB,Nat.reduceLT,Nat.reduceEqDiff,F00,S.lds (b:=b) (o:=0) (n:=4) m1 (lbt rfl)]
 refine step_ret (look_ok S.ok c (p.gr S.gr)) ?_;intro v h g;replace S:=S.call g;clear g
 simp only [BS,LB,Nat.reduceLT,Nat.reduceEqDiff]
 refine az (aC S (i:=0) rfl ?_ ?_ ?_ ono) ?_
 . exact(by simp only [F00])
 . exact(by exact fl_nili)
 . exact XT (lbt rfl)
 clear S;rintro h ⟨S,s⟩;clear s;simp only [LC,ah,lay,XC,XD,Nat.reduceAdd]at S
 simp only [BS]
 refine fD (un_fn (fk (check1_ok S.ok) fun o t u ⟨a,b,g⟩=>⟨a,b,c9 ⟨rfl,?_⟩⟩))
 replace S:=S.call g
 have l:=S.ld (b:=r) (o:=0) m0 rfl
 exact⟨_,rV (by decide) (by simp only [aO,ag,Nat.reduceEqDiff,reduceIte];exact qk Tryz.t41.1 l),rfl,S.gr⟩
theorem qv{h0:Hp}(f:h0.t.Sized h0.n){v:Value}{xs:List Int}(i:au h0 1 (encI .i64) v xs)(p:xs.length<1000000):Ret zM 105 [v] h0 fun r h'=>Gr h0 h'/\au h' 1 (encI .i64) r xs/\ ∀c,aq r c->h0.n<=c:=by
 have S:=Si f
 rcases i with⟨rfl,rfl⟩|⟨b,o,s,c,rfl,j,k⟩
 . refine ab (n:=8) (rs:=[.tmp 2]) rfl Tryz.e105 rfl rfl rfl (lbt rfl) ?_
   simp only [BS,LB,ac,Nat.reduceLT,Nat.reduceEqDiff,F0e]
   exact⟨S.gr,.inl ⟨rfl,rfl⟩,fun c a=>a.elim⟩
 . refine ab (n:=8) (rs:=[.tmp 2]) rfl Tryz.e105 rfl rfl rfl (lbt rfl) ?_
   simp only [BS,LB,Nat.reduceLT,Nat.reduceEqDiff,F0e]
   refine ae (co (by exact Tryz.t24.1) (by exact Tryz.e2E) (by decide) (by rfl)) S ?_;clear S;intro h q S d;simp only [LC,bA,bS,ah,Nat.reduceMul,Nat.reduceAdd,Xn,Xl,Xu,XG]at S
   simp only [BS,LB,Nat.reduceLT,Nat.reduceEqDiff]
   refine eh (S.cloneSl (enc:=encI .i64) (xs:=[]) Tryz.t24.1 Tryz.e2E (by decide) Tryz.t24.2.2.2.2.2 (.inr ⟨b,o,s,c,rfl,j,S.old k (fun h=>h)⟩) (fun x=>rfl) (by decide) (by simp only [X8,Xl];omega) (S.row m0)) ?_
   rintro h' v ⟨l,g,m,a⟩
   simp only [BS,LB,ac,Nat.reduceLT,Nat.reduceEqDiff]
   refine⟨l.gr,by simpa using m,fun c h=>(a c h).elim (fun e=>by omega) (fun e=>Xw S.fr.n e)⟩
theorem zK{h0:Hp}(f:h0.t.Sized h0.n){v:Value}{xs:List Arc}(i:au h0 3 (ct) v xs)(p:xs.length<1000000):Ret zM 106 [v] h0 fun r h'=>Gr h0 h'/\au h' 3 (ct) r xs/\(∀c,aq r c->h0.n<=c)/\WrK h' 3 ct r xs:=by
 have S:=Si f
 rcases i with⟨rfl,rfl⟩|⟨b,o,s,c,rfl,j,k⟩
 . refine ab (n:=8) (rs:=[.tmp 2]) rfl Tryz.e106 rfl rfl rfl (lbt rfl) ?_
   simp only [BS,LB,ac,Nat.reduceLT,Nat.reduceEqDiff,F0f]
   exact⟨S.gr,.inl ⟨rfl,rfl⟩,fun c a=>a.elim,fun h=>absurd rfl h⟩
 . refine ab (n:=8) (rs:=[.tmp 2]) rfl Tryz.e106 rfl rfl rfl (lbt rfl) ?_
   simp only [BS,LB,Nat.reduceLT,Nat.reduceEqDiff,F0f]
   refine ae (co (by exact Tryz.t29.1) (by exact Tryz.e99E) (by decide) (by rfl)) S ?_;clear S;intro h q S d;simp only [LC,bA,bS,ah,Nat.reduceMul,Nat.reduceAdd,Xn,Xl,Xu,XG]at S
   simp only [BS,LB,Nat.reduceLT,Nat.reduceEqDiff]
   refine eh (S.cloneW (enc:=ct) (ys:=xs) Tryz.t29.1 Tryz.e99E (by decide) Tryz.t29.2.2.2.2.2 (.inr ⟨b,o,s,c,rfl,j,S.old k (fun h=>h)⟩) (fun x=>rfl) (by decide) (by omega) (S.row m0)) ?_
   rintro h' v ⟨l,g,m,a,w⟩
   simp only [BS,LB,ac,Nat.reduceLT,Nat.reduceEqDiff]
   exact⟨l.gr,m,fun c h=>(a c h).elim (fun e=>by omega) (fun e=>Xw S.fr.n e),w⟩
def Tryz.FL:=aj t1<|aj t2<|aj t3<|aj t4<|aj t5<|aj t22<|aj t36<|aj t38<|r38
structure DrAt(h:Hp)(bd:Nat)(vB:Value)(xs:List Int)(a:Nat):Prop where
 sl:au h 1 (encI .u8) vB xs
 ne: ¬aq vB bd
 few:xs.length<1000000
 at_:a<100000
def drV(xs:List Int)(n a:Nat):Nat:=if h:xs.length=0 then 0 else(an .u8 (xs[a%xs.length]'(Nat.mod_lt _ (by omega))+an .u8 (an .i64 ((a:Int).tdiv (xs.length:Int))))%(n:Int)).toNat
theorem xQ{h0:Hp}(A:h0.t.Sized h0.n){d a n:Nat}{f:Value}{xs:List Int}(m:Row h0 d [f,.int .i64 a] 1)(B:DrAt h0 d f xs a)(J:1<=n)(C:n<1000):
 Ret zM 41 [ptrTo d,.int .i64 n] h0 fun v h'=>Mo (· =d) h0 h'/\ ∃r w:Nat,v=.int .i64 r/\r<n/\w<=a+1/\Row h' d [f,.int .i64 w] 1/\r=drV xs n a:=by
 have S:=St.init1 A (o:=.row [f,.int .i64 a] 1) m
 obtain⟨p,t,K,L⟩:=B
 have M:=p.fl
 have D:an .i64 ((a:Int)+1)=((a+1:Nat):Int):=by rw [wrap64]<;>omega
 have E:an .i64 (((a+1:Nat):Int)-1)=(a:Int):=by rw [wrap64]<;>omega
 have F: ¬(n:Int)<1:=by omega
 by_cases g:xs.length=0
 . have s:(xs.length:Int)=0:=by omega
   refine ab (n:=55) (rs:=[.tmp 4]) rfl Tryz.e41 rfl rfl rfl (lbt rfl) ?_
   simp only [BS,LB,ac,Nat.reduceLT,Nat.reduceEqDiff,FL,p.lenq,s,S.ld (b:=d) (o:=0) m0 rfl]
   exact⟨S.fr,0,a,rfl,by omega,by omega,S.row m0,by unfold drV;rw [dif_pos g]⟩
 . have s: ¬(xs.length:Int)=0:=by omega
   have j:a%xs.length<xs.length:=Nat.mod_lt _ (by omega)
   have G:(a:Int).tmod (xs.length:Int)=((a%xs.length:Nat):Int):=by rw [XS (by omega)];exact(Int.natCast_emod _ _).symm
   refine ab (n:=55) (rs:=[.tmp 4]) rfl Tryz.e41 rfl rfl rfl (lbt rfl) ?_
   simp only [BS,LB,Nat.reduceLT,Nat.reduceEqDiff,FL,p.lenq,s,F,D,S.ld (b:=d) (o:=0) m0 rfl,S.ld (b:=d) (o:=1) m0 rfl]
   refine az (aC S (i:=0) rfl ?_ ?_ ?_ ono) ?_
   . exact(by simp only [FL])
   . exact(by exact aY)
   . exact XT (lbt rfl)
   clear S;rintro h ⟨S,H⟩;clear H;simp only [LC,ah,lay,XC,XD,Nat.reduceAdd]at S
   have k:au h 1 (encI .u8) f xs:=p.mo S.fr (fun b I e=>t (e▸I))
   obtain⟨c,o,l,u⟩:=k.ix (kd:=.i64) (dh _) j
   have x:(xs.length:Int)≠0:=s
   have y:(n:Int)≠0:=by omega
   simp only [BS]
   refine aB (aG rfl) (q:=0) (ps:=[]) (by kernel_rfl) ?_
   simp only [BS,LB,jy,cv,jx,cls,ac,Nat.reduceLT,Nat.reduceEqDiff,Nat.reduceAdd,Nat.reducePow,Nat.reduceDiv,Nat.reduceMod,Nat.reduceLeDiff,FL,k.lenq,E,mO x,b_quo x,mO y,G,l,u,encI,S.ld (b:=d) (o:=0) m0 rfl,S.ld (b:=d) (o:=1) m0 rfl]
   have m:(an .i64 (an .u8 (xs[a%xs.length]+an .u8 (an .i64 ((a:Int).tdiv (xs.length:Int)))))).tmod (n:Int)=((drV xs n a:Nat):Int)/\drV xs n a<n:=by
    unfold drV
    rw [dif_neg g]
    generalize xs[a%xs.length]+an .u8 (an .i64 ((a:Int).tdiv (xs.length:Int)))=z
    have N:=wrap8 z
    rw [wrap64 (by omega) (by omega),XS (by omega)]
    have O:=Int.emod_nonneg (an .u8 z) y
    have P:=Int.emod_lt_of_pos (an .u8 z) (show(0:Int)<n by omega)
    exact⟨by omega,by omega⟩
   rw [m.1]
   exact⟨S.fr,_,a+1,rfl,m.2,XF _,S.row m0,rfl⟩
theorem g8{h0:Hp}(h:h0.t.Sized h0.n){b a n:Nat}{d:Value}{xs:List Int}(i:Row h0 b [d,.int .i64 a] 1)(j:DrAt h0 b d xs a)(k:1<=n)(g:n<1000):
 Ret zM 41 [ptrTo b,.int .i64 n] h0 fun v h'=>Mo (· =b) h0 h'/\ ∃r c:Nat,v=.int .i64 r/\r<n/\c<=a+1/\Row h' b [d,.int .i64 c] 1:=
 (xQ h i j k g).mono fun v h' ⟨f,r,c,e,l,m,o,_⟩=>⟨f,r,c,e,l,m,o⟩
theorem DrAt.mo{h h':Hp}{c:Nat}{g:Value}{xs:List Int}{a i:Nat}(d:DrAt h c g xs a)(f:Mo (· =c) h h')(j:i<100000):DrAt h' c g xs i:=
 ⟨d.sl.mo f (fun b k e=>d.ne (e▸k)),d.ne,d.few,j⟩
theorem DrAt.gr{h h':Hp}{b:Nat}{c:Value}{xs:List Int}{a:Nat}(d:DrAt h b c xs a)(g:Gr h h'):DrAt h' b c xs a:=⟨d.sl.gr g,d.ne,d.few,d.at_⟩
theorem wh{h0:Hp}(x:h0.t.Sized h0.n){d a:Nat}{e:Value}{xs:List Int}(y:Row h0 d [e,.int .i64 a] 1)(s:DrAt h0 d e xs a)(C:a+2<100000):
 Ret zM 42 [ptrTo d] h0 fun v h'=>Mo (· =d) h0 h'/\ ∃r t:Nat,v=.int .i64 r/\r<=2147483647/\t<=a+2/\Row h' d [e,.int .i64 t] 1:=by
 have S:=St.init1 x (o:=.row [e,.int .i64 a] 1) y
 refine ab (n:=24) (rs:=[.tmp 2]) rfl Tryz.e42 rfl rfl rfl (lbt rfl) ?_
 simp only [BS,LB,Nat.reduceLT,Nat.reduceEqDiff]
 refine step_ret (g8 (n:=12) S.ok (S.row m0) s (by omega) (by omega)) ?_
 rintro v h ⟨f,r,u,rfl,z,A,B⟩
 replace S:=S.call1 (i:=0) rfl f (o':=.row _ _) B
 have c:DrAt h d e xs u:=s.mo f (by omega)
 simp only [LC]at S
 by_cases p:(r:Int)<3
 . simp only [BS,LB,ac,Nat.reduceLT,Nat.reduceEqDiff,p]
   exact⟨S.fr,0,u,rfl,by omega,by omega,S.row m0⟩
 . by_cases q:(r:Int)<10
   . simp only [BS,LB,Nat.reduceLT,Nat.reduceEqDiff,p,q]
     refine step_ret (g8 (n:=9) S.ok (S.row m0) c (by omega) (by omega)) ?_
     rintro v h ⟨f,b,g,rfl,j,k,l⟩
     replace S:=S.call1 (i:=0) rfl f (o':=.row _ _) l
     simp only [LC]at S
     have m:an .i64 (1+(b:Int))=((1+b:Nat):Int):=by rw [wrap64]<;>omega
     simp only [BS,LB,ac,Nat.reduceLT,Nat.reduceEqDiff,m]
     exact⟨S.fr,1+b,g,rfl,by omega,by omega,S.row m0⟩
   . by_cases w:(r:Int)<11
     . simp only [BS,LB,Nat.reduceLT,Nat.reduceEqDiff,p,q,w]
       refine step_ret (g8 (n:=20) S.ok (S.row m0) c (by omega) (by omega)) ?_
       rintro v h ⟨f,b,g,rfl,j,k,l⟩
       replace S:=S.call1 (i:=0) rfl f (o':=.row _ _) l
       simp only [LC]at S
       have m:an .i64 (100*(b:Int))=((100*b:Nat):Int):=by rw [wrap64]<;>omega
       simp only [BS,LB,ac,Nat.reduceLT,Nat.reduceEqDiff,m]
       exact⟨S.fr,100*b,g,rfl,by omega,by omega,S.row m0⟩
     . simp only [BS,LB,Nat.reduceLT,Nat.reduceEqDiff,p,q,w]
       refine step_ret (g8 (n:=2) S.ok (S.row m0) c (by omega) (by omega)) ?_
       rintro v h ⟨f,b,g,rfl,j,k,l⟩
       replace S:=S.call1 (i:=0) rfl f (o':=.row _ _) l
       simp only [LC]at S
       have m:an .i64 (2147483647-(b:Int))=((2147483647-b:Nat):Int):=by rw [wrap64]<;>omega
       simp only [BS,LB,ac,Nat.reduceLT,Nat.reduceEqDiff,m]
       exact⟨S.fr,2147483647-b,g,rfl,by omega,by omega,S.row m0⟩
end Go.Ab
end

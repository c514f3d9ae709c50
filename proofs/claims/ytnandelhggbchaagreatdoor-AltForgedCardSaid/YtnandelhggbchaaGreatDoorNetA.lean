/- Nets, cells, flags: what the functions do (part 1). -/
import Derived.Test.YtnandelhggbchaaGreatDoorEnv
open Go.Ab.Tryz
open Go.Ab.Tryz renaming abEnv->zj
open List renaming getD_eq_getElem?_getD->zk,range->zl,take->zo,drop->zp,getElem?_append_left->zw,getElem?_append_right->zy,getElem?_set->zF,flatMap_append->zG,length_append->zH,getElem?_eq_getElem->zI,getElem?_map->zJ,take_succ_cons->zK,mem_of_getElem?->zM,ext_getElem?->zN,drop_zero->zO,take_zero->zP,getElem_mem->zR,length_cons->zT,length_flatMap->zW,map_const'->zX,getElem?_eq_none->zZ,append_nil->z7,length_set->z8,nodup_append->z9,filter_cons->Xb,getElem?_take_of_lt->Xc,range_succ->Xd,mem_append->Xe,mem_range->Xf,length_filter_le->Xg,length_singleton->Xh,flatMap_eq_foldl->Xi,getElem?_append->Xj,drop_succ_cons->Xk
open And renaming intro->zn
open Nat renaming lt_of_succ_le->zq,zero_add->zt,mul_one->zu,zero_mul->zx,le_trans->zC,one_mul->zD,ble_eq_true_of_le->zQ,le_refl->zV,zero_le->Xl
open Int renaming cast_ofNat_Int->zz,tmod_eq_emod_of_nonneg->zU,toNat_natCast->zY
open Bool renaming and_true->zL
open Option renaming getD_some->Xa
set_option maxHeartbeats 4000000
set_option linter.defProp false
set_option linter.unusedVariables false
set_option linter.unusedSimpArgs false
section
namespace Go.Ab
theorem Si{h:Hp}(a:h.t.Sized h.n):St NoM h h [] []:=St.init a
theorem aj{a b:Prop}(x:a)(y:b):a/\b:=⟨x,y⟩
set_option linter.defProp false in
def LC:=zn @List.set_cons_zero.{0}<|zn @List.set_cons_succ.{0}<|zn @List.cons_append.{0}<|zn @List.nil_append.{0}<|zn @List.append_nil.{0}<|zn @List.length_cons.{0}<|zn @List.length_nil.{0}<|@Nat.add_zero
theorem lbt{a b:Nat}(h:Nat.ble a b=true):a<=b:=Nat.le_of_ble_eq_true h
theorem ono:(1:Nat)≠0:=Nat.one_ne_zero
set_option linter.defProp false in
def LB:=zn @if_true.{1}<|zn @if_false.{1}<|zn @eq_self.{1}<|zn @List.map_cons.{0,0}<|zn @List.map_nil.{0,0}<|zn @List.append_nil.{0}<|zn @List.nil_append.{0}<|zn @List.cons_append.{0}<|zn @List.getElem?_cons_zero.{0}<|zn @List.getElem?_cons_succ.{0}<|zn @List.set_cons_zero.{0}<|zn @List.set_cons_succ.{0}<|zn @List.length_cons.{0}<|zn @List.length_nil.{0}<|zn @Nat.add_zero<|zn @Nat.zero_add<|zn @Nat.mul_one<|zn @Nat.zero_mul<|zn @cond_true.{1}<|zn @cond_false.{1}<|zn @decide_true<|zn @decide_false<|zn @Bool.and_true<|zn @Bool.and_false<|zn @Bool.not_false<|zn @Bool.not_true<|zn @true_and<|zn @and_true<|zn @Option.isSome_some.{0}<|@List.map_toArray.{0,0}
open Go.Proofs
namespace Tryz
abbrev TQ0(i:TypeId)(A:Bool)(S:Nat)(Z:List Value):Prop:=abEnv.agg i=some A/\abEnv.sz i=some S/\abEnv.zero i=some Z/\dh zj i=some false
theorem kTQ0{i:TypeId}{A:Bool}{S:Nat}{Z:List Value}(h:(abEnv.agg i,abEnv.sz i,abEnv.zero i,dh zj i)=(some A,some S,some Z,some false)):TQ0 i A S Z:=by simpa only [Prod.mk.injEq]using h
abbrev TQ1(i:TypeId)(U:TypeDesc)(A:Bool)(S:Nat)(Z:List Value):Prop:=abEnv.und i=some U/\abEnv.agg i=some A/\abEnv.sz i=some S/\abEnv.zero i=some Z/\iM zj i=true
theorem kTQ1{i:TypeId}{U:TypeDesc}{A:Bool}{S:Nat}{Z:List Value}(h:(abEnv.und i,abEnv.agg i,abEnv.sz i,abEnv.zero i,iM zj i)=(some U,some A,some S,some Z,true)):TQ1 i U A S Z:=by simpa only [Prod.mk.injEq]using h
abbrev TQ2(i:TypeId)(U:TypeDesc)(A:Bool)(S:Nat)(Z:List Value):Prop:=abEnv.und i=some U/\abEnv.agg i=some A/\abEnv.sz i=some S/\abEnv.zero i=some Z/\dh zj i=some false
theorem kTQ2{i:TypeId}{U:TypeDesc}{A:Bool}{S:Nat}{Z:List Value}(h:(abEnv.und i,abEnv.agg i,abEnv.sz i,abEnv.zero i,dh zj i)=(some U,some A,some S,some Z,some false)):TQ2 i U A S Z:=by simpa only [Prod.mk.injEq]using h
abbrev TQ3(i:TypeId)(A:Bool)(S:Nat)(Z:List Value)(P:List (Nat×Nat)):Prop:=abEnv.agg i=some A/\abEnv.sz i=some S/\abEnv.zero i=some Z/\iM zj i=true/\dh zj i=some false/\placesOf zj i=some P
theorem kTQ3{i:TypeId}{A:Bool}{S:Nat}{Z:List Value}{P:List (Nat×Nat)}(h:(abEnv.agg i,abEnv.sz i,abEnv.zero i,iM zj i,dh zj i,placesOf zj i)=(some A,some S,some Z,true,some false,some P)):TQ3 i A S Z P:=by simpa only [Prod.mk.injEq]using h
abbrev TQ4(i:TypeId)(U:TypeDesc)(A:Bool)(S:Nat)(Z:List Value):Prop:=abEnv.und i=some U/\abEnv.agg i=some A/\abEnv.sz i=some S/\abEnv.zero i=some Z/\m9 zj i=true/\iM zj i=true/\dh zj i=some false
theorem kTQ4{i:TypeId}{U:TypeDesc}{A:Bool}{S:Nat}{Z:List Value}(h:(abEnv.und i,abEnv.agg i,abEnv.sz i,abEnv.zero i,m9 zj i,iM zj i,dh zj i)=(some U,some A,some S,some Z,true,true,some false)):TQ4 i U A S Z:=by simpa only [Prod.mk.injEq]using h
abbrev TQ5(i:TypeId)(A:Bool)(S:Nat)(Z:List Value):Prop:=abEnv.agg i=some A/\abEnv.sz i=some S/\abEnv.zero i=some Z/\isIface zj i=true/\dh zj i=some false
theorem kTQ5{i:TypeId}{A:Bool}{S:Nat}{Z:List Value}(h:(abEnv.agg i,abEnv.sz i,abEnv.zero i,isIface zj i,dh zj i)=(some A,some S,some Z,true,some false)):TQ5 i A S Z:=by simpa only [Prod.mk.injEq]using h
abbrev TQ6(i:TypeId)(U:TypeDesc)(A:Bool)(S:Nat)(Z:List Value):Prop:=abEnv.und i=some U/\abEnv.agg i=some A/\abEnv.sz i=some S/\abEnv.zero i=some Z/\isSl zj i=true/\dh zj i=some false
theorem kTQ6{i:TypeId}{U:TypeDesc}{A:Bool}{S:Nat}{Z:List Value}(h:(abEnv.und i,abEnv.agg i,abEnv.sz i,abEnv.zero i,isSl zj i,dh zj i)=(some U,some A,some S,some Z,true,some false)):TQ6 i U A S Z:=by simpa only [Prod.mk.injEq]using h
abbrev TQ7(i:TypeId)(A:Bool)(S:Nat)(Z:List Value):Prop:=abEnv.agg i=some A/\abEnv.sz i=some S/\abEnv.zero i=some Z/\iM zj i=true/\dh zj i=some false
theorem kTQ7{i:TypeId}{A:Bool}{S:Nat}{Z:List Value}(h:(abEnv.agg i,abEnv.sz i,abEnv.zero i,iM zj i,dh zj i)=(some A,some S,some Z,true,some false)):TQ7 i A S Z:=by simpa only [Prod.mk.injEq]using h
abbrev TR0(i:TypeId)(f o1 o2 o3:Nat):Prop:=(∀(b o:Nat) (s:Option Nat),aw zj i (.pointer (some ⟨b,o,s⟩)) 0=some (.pointer (some ⟨b,o+f,none⟩))/\aw zj i (.pointer (some ⟨b,o,s⟩)) 1=some (.pointer (some ⟨b,o+o1,none⟩))/\aw zj i (.pointer (some ⟨b,o,s⟩)) 2=some (.pointer (some ⟨b,o+o2,none⟩))/\aw zj i (.pointer (some ⟨b,o,s⟩)) 3=some (.pointer (some ⟨b,o+o3,none⟩)))/\ ∀a c d e:Value,aP zj i (.agg ⟨[a,c,d,e]⟩) 0=some a/\aP zj i (.agg ⟨[a,c,d,e]⟩) 1=some c/\aP zj i (.agg ⟨[a,c,d,e]⟩) 2=some d/\aP zj i (.agg ⟨[a,c,d,e]⟩) 3=some e
abbrev TR1(i:TypeId)(d o1:Nat):Prop:=(∀(b o:Nat) (s:Option Nat),aw zj i (.pointer (some ⟨b,o,s⟩)) 0=some (.pointer (some ⟨b,o+d,none⟩))/\aw zj i (.pointer (some ⟨b,o,s⟩)) 1=some (.pointer (some ⟨b,o+o1,none⟩)))/\ ∀a c:Value,aP zj i (.agg ⟨[a,c]⟩) 0=some a/\aP zj i (.agg ⟨[a,c]⟩) 1=some c
abbrev TR2(i:TypeId)(c:Nat):Prop:=(∀(b o:Nat) (s:Option Nat),aw zj i (.pointer (some ⟨b,o,s⟩)) 0=some (.pointer (some ⟨b,o+c,none⟩)))/\ ∀a:Value,aP zj i (.agg ⟨[a]⟩) 0=some a
abbrev TR3(i:TypeId)(e o1 o2:Nat):Prop:=(∀(b o:Nat) (s:Option Nat),aw zj i (.pointer (some ⟨b,o,s⟩)) 0=some (.pointer (some ⟨b,o+e,none⟩))/\aw zj i (.pointer (some ⟨b,o,s⟩)) 1=some (.pointer (some ⟨b,o+o1,none⟩))/\aw zj i (.pointer (some ⟨b,o,s⟩)) 2=some (.pointer (some ⟨b,o+o2,none⟩)))/\ ∀a c d:Value,aP zj i (.agg ⟨[a,c,d]⟩) 0=some a/\aP zj i (.agg ⟨[a,c,d]⟩) 1=some c/\aP zj i (.agg ⟨[a,c,d]⟩) 2=some d
abbrev TR4(i:TypeId)(h o1 o2:Nat):Prop:=(∀(b o:Nat) (s:Option Nat),aw zj i (.pointer (some ⟨b,o,s⟩)) 0=some (.pointer (some ⟨b,o+h,none⟩))/\aw zj i (.pointer (some ⟨b,o,s⟩)) 1=some (.pointer (some ⟨b,o+o1,none⟩))/\aw zj i (.pointer (some ⟨b,o,s⟩)) 2=some (.pointer (some ⟨b,o+o2,none⟩)))/\ ∀a c d e f g:Value,aP zj i (.agg ⟨[a,c,d,e,f,g]⟩) 0=some (.agg ⟨[a,c,d,e]⟩)/\aP zj i (.agg ⟨[a,c,d,e,f,g]⟩) 1=some f/\aP zj i (.agg ⟨[a,c,d,e,f,g]⟩) 2=some g
abbrev TR5(i:TypeId)(p o1 o2 o3 q r t u v w n:Nat):Prop:=(∀(b o:Nat) (s:Option Nat),aw zj i (.pointer (some ⟨b,o,s⟩)) 0=some (.pointer (some ⟨b,o+p,none⟩))/\aw zj i (.pointer (some ⟨b,o,s⟩)) 1=some (.pointer (some ⟨b,o+o1,none⟩))/\aw zj i (.pointer (some ⟨b,o,s⟩)) 2=some (.pointer (some ⟨b,o+o2,none⟩))/\aw zj i (.pointer (some ⟨b,o,s⟩)) 3=some (.pointer (some ⟨b,o+o3,none⟩))/\aw zj i (.pointer (some ⟨b,o,s⟩)) 4=some (.pointer (some ⟨b,o+q,none⟩))/\aw zj i (.pointer (some ⟨b,o,s⟩)) 5=some (.pointer (some ⟨b,o+r,none⟩))/\aw zj i (.pointer (some ⟨b,o,s⟩)) 6=some (.pointer (some ⟨b,o+t,none⟩))/\aw zj i (.pointer (some ⟨b,o,s⟩)) 7=some (.pointer (some ⟨b,o+u,none⟩))/\aw zj i (.pointer (some ⟨b,o,s⟩)) 8=some (.pointer (some ⟨b,o+v,none⟩))/\aw zj i (.pointer (some ⟨b,o,s⟩)) 9=some (.pointer (some ⟨b,o+w,none⟩))/\aw zj i (.pointer (some ⟨b,o,s⟩)) 10=some (.pointer (some ⟨b,o+n,none⟩)))/\ ∀c d e f g h j k l m a:Value,aP zj i (.agg ⟨[c,d,e,f,g,h,j,k,l,m,a]⟩) 0=some c/\aP zj i (.agg ⟨[c,d,e,f,g,h,j,k,l,m,a]⟩) 1=some d/\aP zj i (.agg ⟨[c,d,e,f,g,h,j,k,l,m,a]⟩) 2=some e/\aP zj i (.agg ⟨[c,d,e,f,g,h,j,k,l,m,a]⟩) 3=some f/\aP zj i (.agg ⟨[c,d,e,f,g,h,j,k,l,m,a]⟩) 4=some g/\aP zj i (.agg ⟨[c,d,e,f,g,h,j,k,l,m,a]⟩) 5=some h/\aP zj i (.agg ⟨[c,d,e,f,g,h,j,k,l,m,a]⟩) 6=some j/\aP zj i (.agg ⟨[c,d,e,f,g,h,j,k,l,m,a]⟩) 7=some k/\aP zj i (.agg ⟨[c,d,e,f,g,h,j,k,l,m,a]⟩) 8=some l/\aP zj i (.agg ⟨[c,d,e,f,g,h,j,k,l,m,a]⟩) 9=some m/\aP zj i (.agg ⟨[c,d,e,f,g,h,j,k,l,m,a]⟩) 10=some a
abbrev TR6(i:TypeId)(j o1 o2 o3:Nat):Prop:=(∀(b o:Nat) (s:Option Nat),aw zj i (.pointer (some ⟨b,o,s⟩)) 0=some (.pointer (some ⟨b,o+j,none⟩))/\aw zj i (.pointer (some ⟨b,o,s⟩)) 1=some (.pointer (some ⟨b,o+o1,none⟩))/\aw zj i (.pointer (some ⟨b,o,s⟩)) 2=some (.pointer (some ⟨b,o+o2,none⟩))/\aw zj i (.pointer (some ⟨b,o,s⟩)) 3=some (.pointer (some ⟨b,o+o3,none⟩)))/\ ∀a c d e f g h:Value,aP zj i (.agg ⟨[a,c,d,e,f,g,h]⟩) 0=some a/\aP zj i (.agg ⟨[a,c,d,e,f,g,h]⟩) 1=some c/\aP zj i (.agg ⟨[a,c,d,e,f,g,h]⟩) 2=some (.agg ⟨[d,e,f,g]⟩)/\aP zj i (.agg ⟨[a,c,d,e,f,g,h]⟩) 3=some h
abbrev TR7(i:TypeId)(k o1 o2 o3 l m n p:Nat):Prop:=(∀(b o:Nat) (s:Option Nat),aw zj i (.pointer (some ⟨b,o,s⟩)) 0=some (.pointer (some ⟨b,o+k,none⟩))/\aw zj i (.pointer (some ⟨b,o,s⟩)) 1=some (.pointer (some ⟨b,o+o1,none⟩))/\aw zj i (.pointer (some ⟨b,o,s⟩)) 2=some (.pointer (some ⟨b,o+o2,none⟩))/\aw zj i (.pointer (some ⟨b,o,s⟩)) 3=some (.pointer (some ⟨b,o+o3,none⟩))/\aw zj i (.pointer (some ⟨b,o,s⟩)) 4=some (.pointer (some ⟨b,o+l,none⟩))/\aw zj i (.pointer (some ⟨b,o,s⟩)) 5=some (.pointer (some ⟨b,o+m,none⟩))/\aw zj i (.pointer (some ⟨b,o,s⟩)) 6=some (.pointer (some ⟨b,o+n,none⟩))/\aw zj i (.pointer (some ⟨b,o,s⟩)) 7=some (.pointer (some ⟨b,o+p,none⟩)))/\ ∀a c d e f g h j:Value,aP zj i (.agg ⟨[a,c,d,e,f,g,h,j]⟩) 0=some a/\aP zj i (.agg ⟨[a,c,d,e,f,g,h,j]⟩) 1=some c/\aP zj i (.agg ⟨[a,c,d,e,f,g,h,j]⟩) 2=some d/\aP zj i (.agg ⟨[a,c,d,e,f,g,h,j]⟩) 3=some e/\aP zj i (.agg ⟨[a,c,d,e,f,g,h,j]⟩) 4=some f/\aP zj i (.agg ⟨[a,c,d,e,f,g,h,j]⟩) 5=some g/\aP zj i (.agg ⟨[a,c,d,e,f,g,h,j]⟩) 6=some h/\aP zj i (.agg ⟨[a,c,d,e,f,g,h,j]⟩) 7=some j
abbrev TR8(i:TypeId)(h o1 o2 o3 j k:Nat):Prop:=(∀(b o:Nat) (s:Option Nat),aw zj i (.pointer (some ⟨b,o,s⟩)) 0=some (.pointer (some ⟨b,o+h,none⟩))/\aw zj i (.pointer (some ⟨b,o,s⟩)) 1=some (.pointer (some ⟨b,o+o1,none⟩))/\aw zj i (.pointer (some ⟨b,o,s⟩)) 2=some (.pointer (some ⟨b,o+o2,none⟩))/\aw zj i (.pointer (some ⟨b,o,s⟩)) 3=some (.pointer (some ⟨b,o+o3,none⟩))/\aw zj i (.pointer (some ⟨b,o,s⟩)) 4=some (.pointer (some ⟨b,o+j,none⟩))/\aw zj i (.pointer (some ⟨b,o,s⟩)) 5=some (.pointer (some ⟨b,o+k,none⟩)))/\ ∀a c d e f g:Value,aP zj i (.agg ⟨[a,c,d,e,f,g]⟩) 0=some a/\aP zj i (.agg ⟨[a,c,d,e,f,g]⟩) 1=some c/\aP zj i (.agg ⟨[a,c,d,e,f,g]⟩) 2=some d/\aP zj i (.agg ⟨[a,c,d,e,f,g]⟩) 3=some e/\aP zj i (.agg ⟨[a,c,d,e,f,g]⟩) 4=some f/\aP zj i (.agg ⟨[a,c,d,e,f,g]⟩) 5=some g
abbrev TR9(i:TypeId)(e o1:Nat):Prop:=(∀(b o:Nat) (s:Option Nat),aw zj i (.pointer (some ⟨b,o,s⟩)) 0=some (.pointer (some ⟨b,o+e,none⟩))/\aw zj i (.pointer (some ⟨b,o,s⟩)) 1=some (.pointer (some ⟨b,o+o1,none⟩)))/\ ∀a c d:Value,aP zj i (.agg ⟨[a,c,d]⟩) 0=some (.agg ⟨[a,c]⟩)/\aP zj i (.agg ⟨[a,c,d]⟩) 1=some d
theorem t1:TQ0 1 false 1 [.nilFunc]:=kTQ0 (by kernel_rfl)
theorem t2:TQ1 2 (.int .i64) false 1 [.int .i64 0]:=kTQ1 (by kernel_rfl)
theorem e2E:dD zj 2 8 1 [.int .i64 0]:=⟨⟨_,rfl,by kernel_rfl,by kernel_rfl⟩,t2.2.2.2.1,rfl⟩
theorem t3:TQ1 3 (.int .i64) false 1 [.int .i64 0]:=kTQ1 (by kernel_rfl)
theorem e3E:dD zj 3 8 1 [.int .i64 0]:=⟨⟨_,rfl,by kernel_rfl,by kernel_rfl⟩,t3.2.2.2.1,rfl⟩
theorem t4:TQ2 4 .bool false 1 [.bool false]:=kTQ2 (by kernel_rfl)
theorem e4E:dD zj 4 1 1 [.bool false]:=⟨⟨_,rfl,by kernel_rfl,by kernel_rfl⟩,t4.2.2.2.1,rfl⟩
theorem t5:TQ1 5 (.int .u8) false 1 [.int .u8 0]:=kTQ1 (by kernel_rfl)
theorem t6:TQ1 6 (.int .u8) false 1 [.int .u8 0]:=kTQ1 (by kernel_rfl)
theorem t7:TQ3 7 true 4 [.int .i64 0,.int .i64 0,.bool false,.int .u8 0] [(0,1),(1,1),(2,1),(3,1)]:=kTQ3 (by kernel_rfl)
theorem r7:TR0 7 0 1 2 3:=⟨fun _ _ _=>⟨rfl,rfl,rfl,rfl⟩,fun _ _ _ _=>⟨rfl,rfl,rfl,rfl⟩⟩
theorem t8:TQ3 8 true 4 [.int .i64 0,.int .i64 0,.bool false,.int .u8 0] [(0,1),(1,1),(2,1),(3,1)]:=kTQ3 (by kernel_rfl)
theorem r8:TR0 8 0 1 2 3:=⟨fun _ _ _=>⟨rfl,rfl,rfl,rfl⟩,fun _ _ _ _=>⟨rfl,rfl,rfl,rfl⟩⟩
theorem t9:TQ2 9 .string false 1 [.string ⟨#[]⟩]:=kTQ2 (by kernel_rfl)
theorem t10:TQ2 10 .string false 1 [.string ⟨#[]⟩]:=kTQ2 (by kernel_rfl)
theorem t11:TQ2 11 .string false 1 [.string ⟨#[]⟩]:=kTQ2 (by kernel_rfl)
theorem t12:TQ1 12 (.int .u64) false 1 [.int .u64 0]:=kTQ1 (by kernel_rfl)
theorem t13:TQ3 13 true 2 [.string ⟨#[]⟩,.int .u64 0] [(0,1),(1,1)]:=kTQ3 (by kernel_rfl)
theorem r13:TR1 13 0 1:=⟨fun _ _ _=>⟨rfl,rfl⟩,fun _ _=>⟨rfl,rfl⟩⟩
theorem t14:TQ3 14 true 2 [.string ⟨#[]⟩,.int .u64 0] [(0,1),(1,1)]:=kTQ3 (by kernel_rfl)
theorem r14:TR1 14 0 1:=⟨fun _ _ _=>⟨rfl,rfl⟩,fun _ _=>⟨rfl,rfl⟩⟩
theorem t15:TQ4 15 (.pointer 371) false 1 [.pointer none]:=kTQ4 (by kernel_rfl)
theorem t16:TQ4 16 (.pointer 374) false 1 [.pointer none]:=kTQ4 (by kernel_rfl)
theorem t17:TQ4 17 (.pointer 381) false 1 [.pointer none]:=kTQ4 (by kernel_rfl)
theorem t18:TQ3 18 true 1 [.pointer none] [(0,1)]:=kTQ3 (by kernel_rfl)
theorem r18:TR2 18 0:=⟨fun _ _ _=>rfl,fun _=>rfl⟩
theorem t19:TQ3 19 true 1 [.pointer none] [(0,1)]:=kTQ3 (by kernel_rfl)
theorem r19:TR2 19 0:=⟨fun _ _ _=>rfl,fun _=>rfl⟩
theorem t20:TQ5 20 false 1 [.nilIface]:=kTQ5 (by kernel_rfl)
theorem t21:TQ1 21 (.int .i32) false 1 [.int .i32 0]:=kTQ1 (by kernel_rfl)
theorem t22:TQ6 22 (.slice 5) false 1 [.slice none 0 0]:=kTQ6 (by kernel_rfl)
theorem t23:TQ1 23 (.int .i8) false 1 [.int .i8 0]:=kTQ1 (by kernel_rfl)
theorem t24:TQ6 24 (.slice 2) false 1 [.slice none 0 0]:=kTQ6 (by kernel_rfl)
theorem e24E:dD zj 24 24 1 [.slice none 0 0]:=⟨⟨_,rfl,by kernel_rfl,by kernel_rfl⟩,t24.2.2.2.1,rfl⟩
theorem t28:TQ3 28 true 4 [.int .i64 0,.int .i64 0,.int .i64 0,.int .i64 0] [(0,1),(1,1),(2,1),(3,1)]:=kTQ3 (by kernel_rfl)
theorem r28:TR0 28 0 1 2 3:=⟨fun _ _ _=>⟨rfl,rfl,rfl,rfl⟩,fun _ _ _ _=>⟨rfl,rfl,rfl,rfl⟩⟩
theorem t29:TQ6 29 (.slice 99) false 1 [.slice none 0 0]:=kTQ6 (by kernel_rfl)
theorem t31:TQ3 31 true 4 [.int .i64 0,.slice none 0 0,.slice none 0 0,.slice none 0 0] [(0,1),(1,1),(2,1),(3,1)]:=kTQ3 (by kernel_rfl)
theorem r31:TR0 31 0 1 2 3:=⟨fun _ _ _=>⟨rfl,rfl,rfl,rfl⟩,fun _ _ _ _=>⟨rfl,rfl,rfl,rfl⟩⟩
theorem t32:TQ4 32 (.pointer 191) false 1 [.pointer none]:=kTQ4 (by kernel_rfl)
theorem t33:TQ6 33 (.slice 3) false 1 [.slice none 0 0]:=kTQ6 (by kernel_rfl)
theorem e33E:dD zj 33 24 1 [.slice none 0 0]:=⟨⟨_,rfl,by kernel_rfl,by kernel_rfl⟩,t33.2.2.2.1,rfl⟩
theorem t36:TQ4 36 (.pointer 38) false 1 [.pointer none]:=kTQ4 (by kernel_rfl)
theorem t38:TQ3 38 true 2 [.slice none 0 0,.int .i64 0] [(0,1),(1,1)]:=kTQ3 (by kernel_rfl)
theorem r38:TR1 38 0 1:=⟨fun _ _ _=>⟨rfl,rfl⟩,fun _ _=>⟨rfl,rfl⟩⟩
theorem t41:TQ5 41 false 1 [.nilIface]:=kTQ5 (by kernel_rfl)
theorem t45:TQ1 45 (.int .i64) false 1 [.int .i64 0]:=kTQ1 (by kernel_rfl)
theorem t47:TQ3 47 true 4 [.int .i64 0,.int .i64 0,.slice none 0 0,.slice none 0 0] [(0,1),(1,1),(2,1),(3,1)]:=kTQ3 (by kernel_rfl)
theorem r47:TR0 47 0 1 2 3:=⟨fun _ _ _=>⟨rfl,rfl,rfl,rfl⟩,fun _ _ _ _=>⟨rfl,rfl,rfl,rfl⟩⟩
theorem t48:TQ6 48 (.slice 94) false 1 [.slice none 0 0]:=kTQ6 (by kernel_rfl)
theorem t51:TQ4 51 (.pointer 131) false 1 [.pointer none]:=kTQ4 (by kernel_rfl)
theorem t59:TQ6 59 (.slice 24) false 1 [.slice none 0 0]:=kTQ6 (by kernel_rfl)
theorem t94:TQ3 94 true 4 [.int .i64 0,.int .i64 0,.int .i64 0,.int .i64 0] [(0,1),(1,1),(2,1),(3,1)]:=kTQ3 (by kernel_rfl)
theorem r94:TR0 94 0 1 2 3:=⟨fun _ _ _=>⟨rfl,rfl,rfl,rfl⟩,fun _ _ _ _=>⟨rfl,rfl,rfl,rfl⟩⟩
theorem e94E:dD zj 94 32 4 [.int .i64 0,.int .i64 0,.int .i64 0,.int .i64 0]:=⟨⟨_,rfl,by kernel_rfl,by kernel_rfl⟩,t94.2.2.1,rfl⟩
theorem t99:TQ3 99 true 3 [.int .i64 0,.int .i64 0,.int .i64 0] [(0,1),(1,1),(2,1)]:=kTQ3 (by kernel_rfl)
theorem r99:TR3 99 0 1 2:=⟨fun _ _ _=>⟨rfl,rfl,rfl⟩,fun _ _ _=>⟨rfl,rfl,rfl⟩⟩
theorem e99E:dD zj 99 24 3 [.int .i64 0,.int .i64 0,.int .i64 0]:=⟨⟨_,rfl,by kernel_rfl,by kernel_rfl⟩,t99.2.2.1,rfl⟩
theorem t131:TQ3 131 true 4 [.int .i64 0,.slice none 0 0,.slice none 0 0,.slice none 0 0] [(0,1),(1,1),(2,1),(3,1)]:=kTQ3 (by kernel_rfl)
theorem r131:TR0 131 0 1 2 3:=⟨fun _ _ _=>⟨rfl,rfl,rfl,rfl⟩,fun _ _ _ _=>⟨rfl,rfl,rfl,rfl⟩⟩
theorem t181:TQ4 181 (.pointer 5) false 1 [.pointer none]:=kTQ4 (by kernel_rfl)
theorem t189:TQ6 189 (.slice 33) false 1 [.slice none 0 0]:=kTQ6 (by kernel_rfl)
theorem t191:TQ3 191 true 6 [.int .i64 0,.slice none 0 0,.slice none 0 0,.slice none 0 0,.slice none 0 0,.slice none 0 0] [(0,4),(4,1),(5,1)]:=kTQ3 (by kernel_rfl)
theorem r191:TR4 191 0 4 5:=⟨fun _ _ _=>⟨rfl,rfl,rfl⟩,fun _ _ _ _ _ _=>⟨rfl,rfl,rfl⟩⟩
theorem t271:TQ1 271 (.int .u8) false 1 [.int .u8 0]:=kTQ1 (by kernel_rfl)
theorem t358:TQ1 358 (.int .u32) false 1 [.int .u32 0]:=kTQ1 (by kernel_rfl)
theorem t371:TQ3 371 true 4 [.pointer none,.pointer none,.pointer none,.string ⟨#[]⟩] [(0,1),(1,1),(2,1),(3,1)]:=kTQ3 (by kernel_rfl)
theorem r371:TR0 371 0 1 2 3:=⟨fun _ _ _=>⟨rfl,rfl,rfl,rfl⟩,fun _ _ _ _=>⟨rfl,rfl,rfl,rfl⟩⟩
theorem t372:TQ2 372 (.array 0 16) true 0 []:=kTQ2 (by kernel_rfl)
theorem t374:TQ7 374 true 0 []:=kTQ7 (by kernel_rfl)
theorem t376:TQ1 376 (.int .u8) false 1 [.int .u8 0]:=kTQ1 (by kernel_rfl)
theorem t377:TQ0 377 false 1 [.nilFunc]:=kTQ0 (by kernel_rfl)
theorem t378:TQ1 378 (.int .i32) false 1 [.int .i32 0]:=kTQ1 (by kernel_rfl)
theorem t379:TQ1 379 (.int .i32) false 1 [.int .i32 0]:=kTQ1 (by kernel_rfl)
theorem t381:TQ3 381 true 11 [.int .u64 0,.int .u64 0,.int .u32 0,.int .u8 0,.int .u8 0,.int .u8 0,.int .u8 0,.nilFunc,.pointer none,.int .i32 0,.int .i32 0] [(0,1),(1,1),(2,1),(3,1),(4,1),(5,1),(6,1),(7,1),(8,1),(9,1),(10,1)]:=kTQ3 (by kernel_rfl)
theorem r381:TR5 381 0 1 2 3 4 5 6 7 8 9 10:=⟨fun _ _ _=>⟨rfl,rfl,rfl,rfl,rfl,rfl,rfl,rfl,rfl,rfl,rfl⟩,fun _ _ _ _ _ _ _ _ _ _ _=>⟨rfl,rfl,rfl,rfl,rfl,rfl,rfl,rfl,rfl,rfl,rfl⟩⟩
theorem t57:TQ3 57 true 7 [.slice none 0 0,.slice none 0 0,.int .i64 0,.int .i64 0,.int .i64 0,.int .i64 0,.slice none 0 0] [(0,1),(1,1),(2,4),(6,1)]:=kTQ3 (by kernel_rfl)
theorem r57:TR6 57 0 1 2 6:=⟨fun _ _ _=>⟨rfl,rfl,rfl,rfl⟩,fun _ _ _ _ _ _ _=>⟨rfl,rfl,rfl,rfl⟩⟩
theorem e4:abEnv.fn 4=some Tryz.f4:=by kernel_rfl
theorem t74:TQ6 74 (.slice 4) false 1 [.slice none 0 0]:=kTQ6 (by kernel_rfl)
theorem e9:abEnv.fn 9=some Tryz.f9:=by kernel_rfl
theorem t102:TQ3 102 true 4 [.int .i64 0,.int .i64 0,.int .i64 0,.int .i64 0] [(0,1),(1,1),(2,1),(3,1)]:=kTQ3 (by kernel_rfl)
theorem r102:TR0 102 0 1 2 3:=⟨fun _ _ _=>⟨rfl,rfl,rfl,rfl⟩,fun _ _ _ _=>⟨rfl,rfl,rfl,rfl⟩⟩
theorem t104:TQ4 104 (.pointer 102) false 1 [.pointer none]:=kTQ4 (by kernel_rfl)
theorem t106:TQ3 106 true 1 [.pointer none] [(0,1)]:=kTQ3 (by kernel_rfl)
theorem r106:TR2 106 0:=⟨fun _ _ _=>rfl,fun _=>rfl⟩
theorem e10:abEnv.fn 10=some Tryz.f10:=by kernel_rfl
theorem t114:TQ3 114 true 3 [.int .i64 0,.slice none 0 0,.slice none 0 0] [(0,1),(1,1),(2,1)]:=kTQ3 (by kernel_rfl)
theorem r114:TR3 114 0 1 2:=⟨fun _ _ _=>⟨rfl,rfl,rfl⟩,fun _ _ _=>⟨rfl,rfl,rfl⟩⟩
theorem t120:TQ3 120 true 4 [.int .i64 0,.int .i64 0,.slice none 0 0,.slice none 0 0] [(0,1),(1,1),(2,1),(3,1)]:=kTQ3 (by kernel_rfl)
theorem r120:TR0 120 0 1 2 3:=⟨fun _ _ _=>⟨rfl,rfl,rfl,rfl⟩,fun _ _ _ _=>⟨rfl,rfl,rfl,rfl⟩⟩
theorem e12:abEnv.fn 12=some Tryz.f12:=by kernel_rfl
theorem e16:abEnv.fn 16=some Tryz.f16:=by kernel_rfl
theorem e17:abEnv.fn 17=some Tryz.f17:=by kernel_rfl
theorem e18:abEnv.fn 18=some Tryz.f18:=by kernel_rfl
theorem t138:TQ0 138 false 1 [.nilFunc]:=kTQ0 (by kernel_rfl)
theorem t140:TQ0 140 false 1 [.nilFunc]:=kTQ0 (by kernel_rfl)
theorem e19:abEnv.fn 19=some Tryz.f19:=by kernel_rfl
theorem t142:TQ1 142 (.int .u64) false 1 [.int .u64 0]:=kTQ1 (by kernel_rfl)
theorem e20:abEnv.fn 20=some Tryz.f20:=by kernel_rfl
theorem e21:abEnv.fn 21=some Tryz.f21:=by kernel_rfl
theorem t147:TQ0 147 false 1 [.nilFunc]:=kTQ0 (by kernel_rfl)
theorem e22:abEnv.fn 22=some Tryz.f22:=by kernel_rfl
theorem t149:TQ0 149 false 1 [.nilFunc]:=kTQ0 (by kernel_rfl)
theorem t151:TQ2 151 (.map 153 3) false 1 [.map none]:=kTQ2 (by kernel_rfl)
theorem t153:TQ2 153 (.array 3 3) true 3 [.int .i64 0,.int .i64 0,.int .i64 0]:=kTQ2 (by kernel_rfl)
theorem e23:abEnv.fn 23=some Tryz.f23:=by kernel_rfl
theorem t161:TQ0 161 false 1 [.nilFunc]:=kTQ0 (by kernel_rfl)
theorem e29:abEnv.fn 29=some Tryz.f29:=by kernel_rfl
theorem t54:TQ0 54 false 1 [.nilFunc]:=kTQ0 (by kernel_rfl)
theorem e41:abEnv.fn 41=some Tryz.f41:=by kernel_rfl
theorem e42:abEnv.fn 42=some Tryz.f42:=by kernel_rfl
theorem e43:abEnv.fn 43=some Tryz.f43:=by kernel_rfl
theorem t192:TQ0 192 false 1 [.nilFunc]:=kTQ0 (by kernel_rfl)
theorem t193:TQ0 193 false 1 [.nilFunc]:=kTQ0 (by kernel_rfl)
theorem e45:abEnv.fn 45=some Tryz.f45:=by kernel_rfl
theorem e46:abEnv.fn 46=some Tryz.f46:=by kernel_rfl
theorem t196:TQ0 196 false 1 [.nilFunc]:=kTQ0 (by kernel_rfl)
theorem t218:TQ2 218 (.map 3 3) false 1 [.map none]:=kTQ2 (by kernel_rfl)
theorem t275:TQ4 275 (.pointer 341) false 1 [.pointer none]:=kTQ4 (by kernel_rfl)
theorem t213:TQ0 213 false 1 [.nilFunc]:=kTQ0 (by kernel_rfl)
theorem t217:TQ0 217 false 1 [.nilFunc]:=kTQ0 (by kernel_rfl)
theorem e53:abEnv.fn 53=some Tryz.f53:=by kernel_rfl
theorem e54:abEnv.fn 54=some Tryz.f54:=by kernel_rfl
theorem e55:abEnv.fn 55=some Tryz.f55:=by kernel_rfl
theorem t137:TQ0 137 false 1 [.nilFunc]:=kTQ0 (by kernel_rfl)
theorem e65:abEnv.fn 65=some Tryz.f65:=by kernel_rfl
theorem e66:abEnv.fn 66=some Tryz.f66:=by kernel_rfl
theorem e67:abEnv.fn 67=some Tryz.f67:=by kernel_rfl
theorem e68:abEnv.fn 68=some Tryz.f68:=by kernel_rfl
theorem e69:abEnv.fn 69=some Tryz.f69:=by kernel_rfl
theorem e70:abEnv.fn 70=some Tryz.f70:=by kernel_rfl
theorem t231:TQ0 231 false 1 [.nilFunc]:=kTQ0 (by kernel_rfl)
theorem t234:TQ3 234 true 2 [.nilFunc,.int .i64 0] [(0,1),(1,1)]:=kTQ3 (by kernel_rfl)
theorem r234:TR1 234 0 1:=⟨fun _ _ _=>⟨rfl,rfl⟩,fun _ _=>⟨rfl,rfl⟩⟩
theorem e234E:dD zj 234 16 2 [.nilFunc,.int .i64 0]:=⟨⟨_,rfl,by kernel_rfl,by kernel_rfl⟩,t234.2.2.1,rfl⟩
theorem t302:TQ6 302 (.slice 234) false 1 [.slice none 0 0]:=kTQ6 (by kernel_rfl)
theorem e71:abEnv.fn 71=some Tryz.f71:=by kernel_rfl
theorem t237:TQ4 237 (.pointer 304) false 1 [.pointer none]:=kTQ4 (by kernel_rfl)
theorem t304:TQ3 304 true 8 [.pointer none,.pointer none,.slice none 0 0,.slice none 0 0,.slice none 0 0,.nilFunc,.nilFunc,.slice none 0 0] [(0,1),(1,1),(2,1),(3,1),(4,1),(5,1),(6,1),(7,1)]:=kTQ3 (by kernel_rfl)
theorem r304:TR7 304 0 1 2 3 4 5 6 7:=⟨fun _ _ _=>⟨rfl,rfl,rfl,rfl,rfl,rfl,rfl,rfl⟩,fun _ _ _ _ _ _ _ _=>⟨rfl,rfl,rfl,rfl,rfl,rfl,rfl,rfl⟩⟩
theorem e72:abEnv.fn 72=some Tryz.f72:=by kernel_rfl
theorem e73:abEnv.fn 73=some Tryz.f73:=by kernel_rfl
theorem e74:abEnv.fn 74=some Tryz.f74:=by kernel_rfl
theorem e75:abEnv.fn 75=some Tryz.f75:=by kernel_rfl
theorem e76:abEnv.fn 76=some Tryz.f76:=by kernel_rfl
theorem e77:abEnv.fn 77=some Tryz.f77:=by kernel_rfl
theorem e78:abEnv.fn 78=some Tryz.f78:=by kernel_rfl
theorem e81:abEnv.fn 81=some Tryz.f81:=by kernel_rfl
theorem e82:abEnv.fn 82=some Tryz.f82:=by kernel_rfl
theorem e83:abEnv.fn 83=some Tryz.f83:=by kernel_rfl
theorem e84:abEnv.fn 84=some Tryz.f84:=by kernel_rfl
theorem t215:TQ0 215 false 1 [.nilFunc]:=kTQ0 (by kernel_rfl)
theorem t246:TQ0 246 false 1 [.nilFunc]:=kTQ0 (by kernel_rfl)
theorem e85:abEnv.fn 85=some Tryz.f85:=by kernel_rfl
theorem t250:TQ0 250 false 1 [.nilFunc]:=kTQ0 (by kernel_rfl)
theorem t183:TQ3 183 true 1 [.pointer none] [(0,1)]:=kTQ3 (by kernel_rfl)
theorem r183:TR2 183 0:=⟨fun _ _ _=>rfl,fun _=>rfl⟩
theorem e99:abEnv.fn 99=some Tryz.f99:=by kernel_rfl
theorem t256:TQ0 256 false 1 [.nilFunc]:=kTQ0 (by kernel_rfl)
theorem t258:TQ0 258 false 1 [.nilFunc]:=kTQ0 (by kernel_rfl)
theorem e258E:dD zj 258 8 1 [.nilFunc]:=⟨⟨_,rfl,by kernel_rfl,by kernel_rfl⟩,t258.2.2.1,rfl⟩
theorem t260:TQ6 260 (.slice 258) false 1 [.slice none 0 0]:=kTQ6 (by kernel_rfl)
theorem t262:TQ3 262 true 6 [.int .i64 0,.int .i64 0,.int .i64 0,.int .i64 0,.int .i64 0,.int .i64 0] [(0,1),(1,1),(2,1),(3,1),(4,1),(5,1)]:=kTQ3 (by kernel_rfl)
theorem r262:TR8 262 0 1 2 3 4 5:=⟨fun _ _ _=>⟨rfl,rfl,rfl,rfl,rfl,rfl⟩,fun _ _ _ _ _ _=>⟨rfl,rfl,rfl,rfl,rfl,rfl⟩⟩
theorem e262E:dD zj 262 48 6 [.int .i64 0,.int .i64 0,.int .i64 0,.int .i64 0,.int .i64 0,.int .i64 0]:=⟨⟨_,rfl,by kernel_rfl,by kernel_rfl⟩,t262.2.2.1,rfl⟩
theorem e100:abEnv.fn 100=some Tryz.f100:=by kernel_rfl
theorem e102:abEnv.fn 102=some Tryz.f102:=by kernel_rfl
theorem e103:abEnv.fn 103=some Tryz.f103:=by kernel_rfl
theorem e104:abEnv.fn 104=some Tryz.f104:=by kernel_rfl
theorem e105:abEnv.fn 105=some Tryz.f105:=by kernel_rfl
theorem e106:abEnv.fn 106=some Tryz.f106:=by kernel_rfl
theorem e112:abEnv.fn 112=some Tryz.f112:=by kernel_rfl
theorem t95:TQ0 95 false 1 [.nilFunc]:=kTQ0 (by kernel_rfl)
theorem t339:TQ3 339 true 2 [.slice none 0 0,.map none] [(0,1),(1,1)]:=kTQ3 (by kernel_rfl)
theorem r339:TR1 339 0 1:=⟨fun _ _ _=>⟨rfl,rfl⟩,fun _ _=>⟨rfl,rfl⟩⟩
theorem t341:TQ3 341 true 3 [.slice none 0 0,.map none,.int .i64 0] [(0,2),(2,1)]:=kTQ3 (by kernel_rfl)
theorem r341:TR9 341 0 2:=⟨fun _ _ _=>⟨rfl,rfl⟩,fun _ _ _=>⟨rfl,rfl⟩⟩
theorem e115:abEnv.fn 115=some Tryz.f115:=by kernel_rfl
theorem e123:abEnv.fn 123=some Tryz.f123:=by kernel_rfl
theorem e124:abEnv.fn 124=some Tryz.f124:=by kernel_rfl
theorem e126:abEnv.fn 126=some Tryz.f126:=by kernel_rfl
theorem e129:abEnv.fn 129=some Tryz.f129:=by kernel_rfl
theorem e130:abEnv.fn 130=some Tryz.f130:=by kernel_rfl
theorem e131:abEnv.fn 131=some Tryz.f131:=by kernel_rfl
theorem e140:abEnv.fn 140=some Tryz.f140:=by kernel_rfl
theorem e141:abEnv.fn 141=some Tryz.f141:=by kernel_rfl
theorem e142:abEnv.fn 142=some Tryz.f142:=by kernel_rfl
theorem e143:abEnv.fn 143=some Tryz.f143:=by kernel_rfl
theorem e144:abEnv.fn 144=some Tryz.f144:=by kernel_rfl
theorem e145:abEnv.fn 145=some Tryz.f145:=by kernel_rfl
theorem e146:abEnv.fn 146=some Tryz.f146:=by kernel_rfl
theorem e147:abEnv.fn 147=some Tryz.f147:=by kernel_rfl
theorem e148:abEnv.fn 148=some Tryz.f148:=by kernel_rfl
theorem e149:abEnv.fn 149=some Tryz.f149:=by kernel_rfl
theorem e150:abEnv.fn 150=some Tryz.f150:=by kernel_rfl
theorem e151:abEnv.fn 151=some Tryz.f151:=by kernel_rfl
theorem e152:abEnv.fn 152=some Tryz.f152:=by kernel_rfl
theorem e153:abEnv.fn 153=some Tryz.f153:=by kernel_rfl
theorem t240:TQ0 240 false 1 [.nilFunc]:=kTQ0 (by kernel_rfl)
theorem e154:abEnv.fn 154=some Tryz.f154:=by kernel_rfl
theorem e155:abEnv.fn 155=some Tryz.f155:=by kernel_rfl
theorem e156:abEnv.fn 156=some Tryz.f156:=by kernel_rfl
theorem e157:abEnv.fn 157=some Tryz.f157:=by kernel_rfl
theorem e158:abEnv.fn 158=some Tryz.f158:=by kernel_rfl
theorem e159:abEnv.fn 159=some Tryz.f159:=by kernel_rfl
theorem e160:abEnv.fn 160=some Tryz.f160:=by kernel_rfl
theorem t312:TQ0 312 false 1 [.nilFunc]:=kTQ0 (by kernel_rfl)
theorem e161:abEnv.fn 161=some Tryz.f161:=by kernel_rfl
theorem e162:abEnv.fn 162=some Tryz.f162:=by kernel_rfl
theorem e163:abEnv.fn 163=some Tryz.f163:=by kernel_rfl
theorem e164:abEnv.fn 164=some Tryz.f164:=by kernel_rfl
theorem e181:abEnv.fn 181=some Tryz.f181:=by kernel_rfl
theorem t321:TQ6 321 (.slice 262) false 1 [.slice none 0 0]:=kTQ6 (by kernel_rfl)
theorem e182:abEnv.fn 182=some Tryz.f182:=by kernel_rfl
theorem e183:abEnv.fn 183=some Tryz.f183:=by kernel_rfl
theorem e184:abEnv.fn 184=some Tryz.f184:=by kernel_rfl
theorem e185:abEnv.fn 185=some Tryz.f185:=by kernel_rfl
theorem e186:abEnv.fn 186=some Tryz.f186:=by kernel_rfl
theorem e187:abEnv.fn 187=some Tryz.f187:=by kernel_rfl
theorem e188:abEnv.fn 188=some Tryz.f188:=by kernel_rfl
theorem e189:abEnv.fn 189=some Tryz.f189:=by kernel_rfl
theorem t337:TQ6 337 (.slice 344) false 1 [.slice none 0 0]:=kTQ6 (by kernel_rfl)
theorem t344:TQ3 344 true 2 [.int .i64 0,.int .i64 0] [(0,1),(1,1)]:=kTQ3 (by kernel_rfl)
theorem r344:TR1 344 0 1:=⟨fun _ _ _=>⟨rfl,rfl⟩,fun _ _=>⟨rfl,rfl⟩⟩
theorem e344E:dD zj 344 16 2 [.int .i64 0,.int .i64 0]:=⟨⟨_,rfl,by kernel_rfl,by kernel_rfl⟩,t344.2.2.1,rfl⟩
theorem e196:abEnv.fn 196=some Tryz.f196:=by kernel_rfl
theorem e197:abEnv.fn 197=some Tryz.f197:=by kernel_rfl
theorem e199:abEnv.fn 199=some Tryz.f199:=by kernel_rfl
theorem e200:abEnv.fn 200=some Tryz.f200:=by kernel_rfl
theorem e202:abEnv.fn 202=some Tryz.f202:=by kernel_rfl
theorem e206:abEnv.fn 206=some Tryz.f206:=by kernel_rfl
theorem e207:abEnv.fn 207=some Tryz.f207:=by kernel_rfl
theorem e208:abEnv.fn 208=some Tryz.f208:=by kernel_rfl
theorem e209:abEnv.fn 209=some Tryz.f209:=by kernel_rfl
theorem e211:abEnv.fn 211=some Tryz.f211:=by kernel_rfl
theorem e215:abEnv.fn 215=some Tryz.f215:=by kernel_rfl
theorem e216:abEnv.fn 216=some Tryz.f216:=by kernel_rfl
theorem e217:abEnv.fn 217=some Tryz.f217:=by kernel_rfl
theorem e218:abEnv.fn 218=some Tryz.f218:=by kernel_rfl
theorem e219:abEnv.fn 219=some Tryz.f219:=by kernel_rfl
theorem e220:abEnv.fn 220=some Tryz.f220:=by kernel_rfl
theorem e221:abEnv.fn 221=some Tryz.f221:=by kernel_rfl
theorem e222:abEnv.fn 222=some Tryz.f222:=by kernel_rfl
theorem e223:abEnv.fn 223=some Tryz.f223:=by kernel_rfl
theorem e224:abEnv.fn 224=some Tryz.f224:=by kernel_rfl
theorem e225:abEnv.fn 225=some Tryz.f225:=by kernel_rfl
theorem e239:abEnv.fn 239=some Tryz.f239:=by kernel_rfl
theorem t322:TQ0 322 false 1 [.nilFunc]:=kTQ0 (by kernel_rfl)
theorem e240:abEnv.fn 240=some Tryz.f240:=by kernel_rfl
theorem e241:abEnv.fn 241=some Tryz.f241:=by kernel_rfl
theorem t357:TQ4 357 (.pointer 339) false 1 [.pointer none]:=kTQ4 (by kernel_rfl)
theorem e245:abEnv.fn 245=some Tryz.f245:=by kernel_rfl
theorem e246:abEnv.fn 246=some Tryz.f246:=by kernel_rfl
theorem e247:abEnv.fn 247=some Tryz.f247:=by kernel_rfl
theorem e248:abEnv.fn 248=some Tryz.f248:=by kernel_rfl
theorem e249:abEnv.fn 249=some Tryz.f249:=by kernel_rfl
theorem e250:abEnv.fn 250=some Tryz.f250:=by kernel_rfl
theorem e252:abEnv.fn 252=some Tryz.f252:=by kernel_rfl
theorem e253:abEnv.fn 253=some Tryz.f253:=by kernel_rfl
theorem e254:abEnv.fn 254=some Tryz.f254:=by kernel_rfl
theorem e255:abEnv.fn 255=some Tryz.f255:=by kernel_rfl
theorem e264:abEnv.fn 264=some Tryz.f264:=by kernel_rfl
theorem e265:abEnv.fn 265=some Tryz.f265:=by kernel_rfl
theorem e266:abEnv.fn 266=some Tryz.f266:=by kernel_rfl
theorem e267:abEnv.fn 267=some Tryz.f267:=by kernel_rfl
theorem e269:abEnv.fn 269=some Tryz.f269:=by kernel_rfl
theorem e276:abEnv.fn 276=some Tryz.f276:=by kernel_rfl
theorem e277:abEnv.fn 277=some Tryz.f277:=by kernel_rfl
theorem e278:abEnv.fn 278=some Tryz.f278:=by kernel_rfl
theorem e283:abEnv.fn 283=some Tryz.f283:=by kernel_rfl
end Tryz
end Go.Ab

end
section
namespace Go.Ab
open Go.Proofs
set_option maxRecDepth 10000
def Z0:=aj t31<|r31
def Z1:=aj t99<|r99
def Z2:=aj t7<|r7
def Z3:=aj t191<|r191
def Z4:=aj t131<|r131
def Z5:=aj t8<|r8
def Z6:=aj t339<|r339
def Z7:=aj t94<|r94
def Z8:=aj t341<|r341
def Z9:=aj t344<|r344
def Z10:=aj t28<|r28
def Z11:=aj t262<|r262
def Z12:=aj t13<|r13
def Z13:=aj t304<|r304
def Z14:=aj t371<|r371
def Z15:=aj t120<|r120
def Z16:=aj t57<|r57
def Z17:=aj t381<|r381
def Tryz.FL:=aj t1<|aj t2<|aj t3<|aj t4<|aj t45<|aj Z11<|aj t321<|t322
theorem values{h0:Hp}(d:h0.t.Sized h0.n){v:Value}(e:Fl v):Ret zj 239 [v] h0 fun r c=>Gr h0 c/\ ∃b,r=.func (.func 264) #[] #[ptrTo b]/\h0.n<=b/\c.load b 0 1=some [v]:=by
 have S:=Si d
 refine ag (n:=4) (rs:=[.tmp 2]) rfl Tryz.e239 rfl rfl rfl (lbt rfl) ?_
 simp only [BS,Nat.reduceLT]
 refine am (dp (by assumption)) S ?_;clear S;intro h b S a
 simp only [BS,LB,ae,Nat.reduceLT,Nat.reduceEqDiff]
 exact⟨S.gr,b,rfl,a,S.ld m0 rfl⟩
theorem qQ{h0:Hp}(d:h0.t.Sized h0.n){v:Value}{b:Nat}{ps:List Pl}(y:h0.load b 0 1=some [v])(q:ax h0 6 im v ps)(r:ps.length<1000):
 Iter zj 264 [] [ptrTo b] h0 (fun c=>c=b\/av v c) (ps.map fun p=>[.agg ⟨im p⟩]):=by
 refine qK fun z J Z Y h F s k=>?_
 refine enter (n:=16) (rs:=[]) rfl Tryz.e264 rfl rfl rfl (lbt rfl) ?_
 have l:=s.load d y (.inl rfl)
 have f:=s.sl d q (fun b h=>.inr h)
 simp only [BS,LB,Nat.reduceLT,FL,l,f.lenq]
 refine bg (fun(i:Nat) g h=>i<=ps.length/\ ∃F,ItS h0 (fun c=>c=b\/av v c) h F/\J i h F/\g 0=.func (.yield z) #[] #[]/\g 5=v/\g 6=.int .i64 ps.length/\g 7=.int .i64 i) (fun i=>ps.length-i) ?_ 0 _ _ ?_
 . intro i A g h ⟨hi,F,s,k,r0,r5,r6,r7⟩
   by_cases hlt:i<ps.length
   . have f:=s.sl d q (fun b h=>.inr h)
     obtain⟨c,o,j,m⟩:=f.ix (kd:=.i64) encP_len hlt
     have S:=Si s.ok
     have w:au .i64 ((i:Int)+1)=((i+1:Nat):Int):=by rw [wrap64]<;>omega
     simp only [BS,LB,Nat.reduceLT,Nat.reduceEqDiff,FL,r5,r6,r7,aI,hlt,j,m]
     refine am aF S ?_;clear S;intro h B S t
     simp only [BS,LB,Nat.reduceLT,Nat.reduceEqDiff,im]
     refine aH (S.store (i:=0) rfl ?_ ?_ rfl rfl ?_ ono) ?_
     . exact(by exact Tryz.t262.2.1)
     . exact(by intro x e;cases e)
     . exact lbt rfl
     clear S;rintro h ⟨S,C⟩;clear C;simp only [LC,ah,lay,zo,zp,Nat.reduceAdd]at S
     simp only [BS,LB,Nat.reduceLT,Nat.reduceEqDiff,FL,r0,S.lds (b:=B) (o:=0) (n:=6) m0 (lbt rfl)]
     refine ef Y (s.gr S.gr) (Y.gr _ _ _ _ k S.gr) (i:=i) (by simp [hlt,im]) ?_ ?_ ?_
     . intro u D a E _ _
       simp only [BS,LB,Nat.reduceLT,Nat.reduceEqDiff,r7,w]
       exact A (i+1) _ _ (by omega) ⟨by omega,D,E,a,by simp [ab,r0],by simp [ab,r5],by simp [ab,r6],by simp [ab]⟩
     . intro u a _
       simp only [BS,LB,Nat.reduceLT,Nat.reduceEqDiff]
       exact iQ rfl ⟨rfl,.inr (.inl ⟨_,rfl,a⟩)⟩
     . intro v u a
       simp only [BS]
       exact iL (dE ⟨rfl,.inr (.inr ⟨_,rfl,a⟩)⟩)
   . simp only [BS,LB,Nat.reduceLT,r6,r7,aI,hlt]
     have:i=ps.length:=by omega
     subst this
     exact dS (dE ⟨rfl,_,rfl,rfl,.inl ⟨_,F,rfl,by simpa using k⟩⟩)
 . exact⟨by omega,F,s,k,by simp [ab,cC],by simp [ab],by simp [ab],by simp [ab]⟩
def Tryz.F0i:=aj t1<|aj t2<|aj t3<|aj t4<|aj t5<|aj t45<|aj t256<|aj Z11<|t321
def Tryz.F0j:=aj t1<|aj t2<|aj t3<|aj t4<|aj t5<|aj t24<|aj t29<|aj Z0<|aj t45<|aj Z1<|aj t256<|aj Z11<|t321
def Tryz.Fw:=aj t1<|aj t2<|aj t3<|aj t4<|aj t5<|aj t6<|aj Z2<|aj Z5<|aj t24<|aj t29<|aj Z0<|aj t45<|aj Z1<|aj Z11<|t322
def kR(f g:Nat)(v:Value)(h:Hp):Prop:= ∃d a b,∃(e:List Pl) (D:Nat->Prop),v=.func (.func d) a b/\Iter zj d a.toList b.toList h D (e.map fun p=>[.agg ⟨im p⟩])/\(∀p∈e,p.lo<=p.n/\p.n<p.hi)/\ ∀c,D c->c<f\/g<=c
theorem one_ok{h0:Hp}(l:h0.t.Sized h0.n){c n a d:Int}(m:a<=n)(r:n<d):
 Ret zj 182 [.int .i64 c,.int .i64 n,.int .i64 a,.int .i64 d] h0 fun v j=>Gr h0 j/\kR 0 h0.n v j:=by
 have S:=Si l
 refine ag (n:=16) (rs:=[.tmp 8]) rfl Tryz.e182 rfl rfl rfl (lbt rfl) ?_
 simp only [BS,LB,Nat.reduceLT,Nat.reduceEqDiff,Nat.reduceAdd,F0i]
 refine am (bW (by exact Tryz.t321.1) (by exact Tryz.e262E) (by decide) (by rfl)) S ?_;clear S;intro h b S f;simp only [LC,aV,bJ,ah,Nat.reduceMul,Nat.reduceAdd,zx,zt,zu,zD]at S
 simp only [BS,LB,Nat.reduceLT,Nat.reduceEqDiff]
 have q:=S.fr.n
 refine step_ret (values S.ok bD) ?_;intro v h ⟨g,b2,e,n2,l2⟩;replace S:=S.call g;clear g
 subst e
 simp only [BS,LB,ae,Nat.reduceLT,Nat.reduceEqDiff]
 have s:ax h 6 im (.slice (some ⟨b,0,none⟩) 1 1) [⟨0,0,c,n,a,d⟩]:=.inr ⟨b,0,none,1,rfl,zV _,S.lds (b:=b) (o:=0) (n:=1*6) m0 (lbt rfl)⟩
 exact⟨S.gr,_,#[],#[ptrTo b2],_,_,rfl,qQ S.ok l2 s (by simp),by intro p k;simp at k;subst k;exact⟨m,r⟩,fun c i=>by rcases i with rfl|i;exact .inr (by omega);cases i;exact .inr f⟩
theorem shapes_ok{h0:Hp}(u:h0.t.Sized h0.n){a:Gra}(d:Good a){k l m:Value}(r:cJ h0 k l m a):
 Ret zj 184 [ik a k l m] h0 fun v s=>Gr h0 s/\kR 0 h0.n v s:=by
 have S:=Si u
 have A:=d.n1
 have B:=d.n2
 have w:au .i64 ((a.nodes:Int)+1)=((a.nodes+1:Nat):Int):=by rw [wrap64]<;>omega
 refine ag (n:=22) (rs:=[.tmp 2]) rfl Tryz.e184 rfl rfl rfl (lbt rfl) ?_
 simp only [BS,Nat.reduceLT,ik]
 refine am (bE (by intro x e;cases e)) S ?_;clear S;intro h b S y;simp only [ah]at S
 simp only [BS,LB,Nat.reduceLT,Nat.reduceEqDiff,Nat.reduceAdd,F0j,r.X.lenq,r.Y.lenq,w,S.ld (b:=b) (o:=0) m0 rfl,S.ld (b:=b) (o:=1) m0 rfl,S.ld (b:=b) (o:=2) m0 rfl]
 refine am (bW (by exact Tryz.t321.1) (by exact Tryz.e262E) (by decide) (by rfl)) S ?_;clear S;intro h i S f;simp only [LC,aV,bJ,ah,Nat.reduceMul,Nat.reduceAdd,zx,zt,zu,zD]at S
 simp only [BS,LB,Nat.reduceLT,Nat.reduceEqDiff]
 have q:=S.fr.n
 refine step_ret (values S.ok bD) ?_;intro v h ⟨g,b2,e,n2',l2⟩;replace S:=S.call g;clear g
 subst e
 simp only [BS,LB,ae,Nat.reduceLT,Nat.reduceEqDiff]
 have z:ax h 6 im (.slice (some ⟨i,0,none⟩) 2 2) [⟨0,0,6,a.X.length,a.nodes,(a.nodes+1:Nat)⟩,⟨0,1,6,a.Y.length,a.nodes,(a.nodes+1:Nat)⟩]:=.inr ⟨i,0,none,2,rfl,zV _,S.lds (b:=i) (o:=0) (n:=2*6) m0 (lbt rfl)⟩
 refine⟨S.gr,_,#[],#[ptrTo b2],_,_,rfl,qQ S.ok l2 z (by simp),?_,fun c j=>by rcases j with rfl|j;exact .inr (by omega);cases j;exact .inr f⟩
 intro p t
 have:=d.lX
 have:=d.lY
 simp at t
 rcases t with rfl|rfl<;>(simp only [];omega)
theorem nodes_ok{h0:Hp}(j:h0.t.Sized h0.n){c d f g:Value}:Ret zj 186 [.agg ⟨[g,c,d,f]⟩] h0 fun v i=>Gr h0 i/\ ∃b,v=.func (.func 240) #[] #[ptrTo b]/\h0.n<=b/\Row i b [g,c,d,f] 1:=by
 have S:=Si j
 refine ag (n:=4) (rs:=[.tmp 2]) rfl Tryz.e186 rfl rfl rfl (lbt rfl) ?_
 simp only [BS,Nat.reduceLT]
 refine am (bE (by intro x e;cases e)) S ?_;clear S;intro h b S a;simp only [ah]at S
 simp only [BS,LB,ae,Nat.reduceLT,Nat.reduceEqDiff]
 exact⟨S.gr,b,rfl,a,S.row m0⟩
theorem arcs_ok{h0:Hp}(j:h0.t.Sized h0.n){c d f g:Value}:Ret zj 189 [.agg ⟨[g,c,d,f]⟩] h0 fun v i=>Gr h0 i/\ ∃b,v=.func (.func 241) #[] #[ptrTo b]/\h0.n<=b/\Row i b [g,c,d,f] 1:=by
 have S:=Si j
 refine ag (n:=4) (rs:=[.tmp 2]) rfl Tryz.e189 rfl rfl rfl (lbt rfl) ?_
 simp only [BS,Nat.reduceLT]
 refine am (bE (by intro x e;cases e)) S ?_;clear S;intro h b S a;simp only [ah]at S
 simp only [BS,LB,ae,Nat.reduceLT,Nat.reduceEqDiff]
 exact⟨S.gr,b,rfl,a,S.row m0⟩
def plN(X Y:List Int):List Pl:=(zl X.length).flatMap fun(i:Nat)=>[⟨i,0,7,X.getD i 0,-2147483648,2147483648⟩,⟨i,1,7,Y.getD i 0,-2147483648,2147483648⟩]
theorem plN_len(X Y:List Int):(plN X Y).length=2*X.length:=by
 unfold plN
 rw [zW]
 simp [zX]
 omega
theorem plN_at(X Y:List Int){i:Nat}(c:i<X.length):(plN X Y)[2*i]? =some ⟨i,0,7,X.getD i 0,-2147483648,2147483648⟩/\(plN X Y)[2*i+1]? =some ⟨i,1,7,Y.getD i 0,-2147483648,2147483648⟩:=by
 unfold plN
 have b: ∀(n j:Nat) (f:Nat->Pl) (k:Nat->Pl),j<n->((zl n).flatMap fun i=>[f i,k i])[2*j]? =some (f j)/\((zl n).flatMap fun i=>[f i,k i])[2*j+1]? =some (k j):=by
  intro n
  induction n with
  |zero=>intro j f k d;omega
  | succ n e=>
    intro j f k d
    have a:((zl n).flatMap fun i=>[f i,k i]).length=2*n:=by rw [zW];simp [zX];omega
    rw [Xd,zG]
    by_cases h:j<n
    . rw [zw (by omega),zw (by omega)];exact e j f k h
    . have:j=n:=by omega
      subst this
      rw [zy (by omega),zy (by omega),a]
      simp
 exact b _ _ _ _ c
theorem yH{h0:Hp}(d:h0.t.Sized h0.n){l m K L:Value}{b:Nat}{X Y:List Int}(t:Row h0 b [L,l,m,K] 1)(G:ax h0 1 (encI .i64) l X)(M:ax h0 1 (encI .i64) m Y)(hl:X.length=Y.length)(H:X.length<1000):
 Iter zj 240 [] [ptrTo b] h0 (fun c=>c=b\/av l c\/av m c) ((plN X Y).map fun p=>[.agg ⟨im p⟩]):=by
 refine qK fun N J Z u h F s r=>?_
 refine enter (n:=38) (rs:=[]) rfl Tryz.e240 rfl rfl rfl (lbt rfl) ?_
 have x:=s.load d (t.load1 (o:=1) rfl) (.inl rfl)
 simp only [BS,LB,Nat.reduceLT,Nat.reduceEqDiff,Fw,x,G.lenq]
 refine bg (fun(i:Nat) g h=>i<=X.length/\ ∃F,ItS h0 (fun c=>c=b\/av l c\/av m c) h F/\J (2*i) h F/\g 0=.func (.yield N) #[] #[]/\g 1=ptrTo b/\g 8=.int .i64 X.length/\g 9=.int .i64 i) (fun i=>X.length-i) ?_ 0 _ _ ?_
 . intro i O g h ⟨hi,F,s,r,r0,r1,r8,r9⟩
   by_cases hlt:i<X.length
   . have y:=s.sl d G (fun b h=>.inr (.inl h))
     have z:=s.sl d M (fun b h=>.inr (.inr h))
     have x:=s.load d (t.load1 (o:=1) rfl) (.inl rfl)
     have P:=s.load d (t.load1 (o:=2) rfl) (.inl rfl)
     obtain⟨c,o,j,A⟩:=y.ix (kd:=.i64) (cO _) hlt
     obtain⟨c2,o2,f,k⟩:=z.ix (kd:=.i64) (cO _) (i:=i) (by omega)
     have S:=Si s.ok
     have w:au .i64 ((i:Int)+1)=((i+1:Nat):Int):=by rw [wrap64]<;>omega
     simp only [BS,LB,Nat.reduceLT,Nat.reduceEqDiff,r8,r9,aI,hlt]
     refine aE (aK rfl) (q:=1024) (ps:=[]) (by kernel_rfl) ?_
     simp only [BS,LB,cls,Nat.reduceLT,Nat.reduceEqDiff,Nat.reduceAdd,Nat.reducePow,Nat.reduceDiv,Nat.reduceMod,Nat.reduceLeDiff,Fw,r1,x,P,j,f,A,k,encI]
     refine dw (bW (by exact Tryz.t24.1) (by exact Tryz.e2E) (by decide) (by rfl)) S ?_;clear S;intro h e S B C;simp only [LC,aV,bJ,ah,Nat.reduceMul,Nat.reduceAdd,zx,zt,zu,zD]at S
     simp only [BS,LB,cls,Nat.reduceLT,Nat.reduceEqDiff,Nat.reduceAdd,Nat.reducePow,Nat.reduceDiv,Nat.reduceMod,Nat.reduceLeDiff,zz,Fw]
     have Q:au .i64 1=1:=rfl
     have T:au .i64 2=2:=rfl
     have I:=plN_at X Y hlt
     rw [ce]
     simp only [BS,LB,Nat.reduceLT,Nat.reduceEqDiff,Nat.reduceAdd,Int.reduceToNat,Int.reduceLE,Int.reduceLT,zz,Fw,r0,S.ld (b:=e) (o:=0) m0 rfl,S.ld (b:=e) (o:=1) m0 rfl]
     refine ef u (s.gr S.gr) (u.gr _ _ _ _ r S.gr) (i:=2*i) (by rw [zJ,I.1];simp [im,zk,hlt]) ?_ ?_ ?_
     . intro U F2 a V D _
       have W:e∉F:=fun hm=>by have:=s.lt _ hm;omega
       have R:Row U e _ 1:=(S.row m0).of_get (D.get _ ((S.row m0).lt S.ok) W)
       have R1:=R.load1 (o:=1) rfl
       have aa:True:=trivial
       simp only [BS,LB,Nat.reduceLT,Nat.reduceEqDiff,Int.reduceAdd,Q]
       rw [ce]
       simp only [BS,LB,Nat.reduceLT,Nat.reduceEqDiff,Nat.reduceAdd,Int.reduceToNat,Int.reduceLE,Int.reduceLT,zz,Fw,r0,R1]
       refine ef u V a (i:=2*i+1) (by rw [zJ,I.2];simp [im,zk,show i<Y.length by omega]) ?_ ?_ ?_
       . intro h3 F3 a s3 _ _
         simp only [BS,LB,Nat.reduceLT,Nat.reduceEqDiff,Int.reduceAdd,T]
         rw [ce]
         simp only [BS,LB,Nat.reduceLT,Nat.reduceEqDiff,Int.reduceLT,r9,w]
         exact O (i+1) _ _ (by omega) ⟨by omega,F3,s3,a,by simp [ab,r0],by simp [ab,r1],by simp [ab,r8],by simp [ab]⟩
       . intro E a _
         simp only [BS,LB,Nat.reduceLT,Nat.reduceEqDiff]
         exact iQ rfl ⟨rfl,.inr (.inl ⟨_,rfl,a⟩)⟩
       . intro v E a
         simp only [BS]
         exact iL (dE ⟨rfl,.inr (.inr ⟨_,rfl,a⟩)⟩)
     . intro E a _
       simp only [BS,LB,Nat.reduceLT,Nat.reduceEqDiff]
       exact iQ rfl ⟨rfl,.inr (.inl ⟨_,rfl,a⟩)⟩
     . intro v E a
       simp only [BS]
       exact iL (dE ⟨rfl,.inr (.inr ⟨_,rfl,a⟩)⟩)
   . simp only [BS,LB,Nat.reduceLT,r8,r9,aI,hlt]
     have:i=X.length:=by omega
     subst this
     exact dS (dE ⟨rfl,_,rfl,rfl,.inl ⟨_,F,rfl,by simpa [plN_len]using r⟩⟩)
 . exact⟨by omega,F,s,r,by simp [ab,cC],by simp [ab,cC,ao],by simp [ab],by simp [ab]⟩
def Tryz.Fb:=aj t1<|aj t2<|aj t3<|aj t4<|aj t5<|aj t6<|aj Z2<|aj Z5<|aj t9<|aj t24<|aj t29<|aj Z0<|aj t45<|aj Z1<|aj Z11<|aj t321<|t322
def plA(n:Nat)(A:List Arc):List Pl:=(zl A.length).flatMap fun(i:Nat)=>[⟨i,0,9,(A.getD i default).s,0,n⟩,⟨i,1,9,(A.getD i default).t,0,n⟩,⟨i,2,10,(A.getD i default).w,0,2147483648⟩]
theorem flat3_at{α:Type}(f k l:Nat->α): ∀(n j:Nat),j<n->((zl n).flatMap fun i=>[f i,k i,l i])[3*j]? =some (f j)/\((zl n).flatMap fun i=>[f i,k i,l i])[3*j+1]? =some (k j)/\((zl n).flatMap fun i=>[f i,k i,l i])[3*j+2]? =some (l j):=by
 intro n
 induction n with
 |zero=>intro j b;omega
 | succ n c=>
   intro j b
   have a:((zl n).flatMap fun i=>[f i,k i,l i]).length=3*n:=by rw [zW];simp [zX];omega
   rw [Xd,zG]
   by_cases h:j<n
   . rw [zw (by omega),zw (by omega),zw (by omega)];exact c j h
   . have:j=n:=by omega
     subst this
     rw [zy (by omega),zy (by omega),zy (by omega),a]
     simp
theorem plA_len(n:Nat)(A:List Arc):(plA n A).length=3*A.length:=by
 unfold plA
 rw [zW]
 simp [zX]
 omega
theorem arcs_iter {h0:Hp} (d:h0.t.Sized h0.n) {W X m:Value} {b n:Nat} {A:List Arc} (I:Row h0 b [.int .i64 n,W,X,m] 1) (K:ax h0 3 cG m A) (L:A.length<1000):
 Iter zj 241 [] [ptrTo b] h0 (fun c=>c=b\/av m c) ((plA n A).map fun p=>[.agg ⟨im p⟩]):=by
 refine qK fun Y J Z j h F s t=>?_
 refine enter (n:=44) (rs:=[]) rfl Tryz.e241 rfl rfl rfl (lbt rfl) ?_
 have l0:=s.load d (I.load1 (o:=0) rfl) (.inl rfl)
 have l3:=s.load d (I.load1 (o:=3) rfl) (.inl rfl)
 simp only [BS,LB,Nat.reduceLT,Nat.reduceEqDiff,Fb,l0,l3,K.lenq]
 refine bg (fun(i:Nat) k h=>i<=A.length/\ ∃F,ItS h0 (fun c=>c=b\/av m c) h F/\J (3*i) h F/\k 0=.func (.yield Y) #[] #[]/\k 3=.int .i64 n/\k 11=m/\k 12=.int .i64 A.length/\k 13=.int .i64 i) (fun i=>A.length-i) ?_ 0 _ _ ?_
 . intro i ih k h ⟨hi,F,s,t,r0,r3,r11,r12,r13⟩
   by_cases hlt:i<A.length
   . have u:=s.sl d K (fun b h=>.inr h)
     obtain⟨c,o,q,y⟩:=u.ix (kd:=.i64) fU hlt
     have S:=Si s.ok
     have w:au .i64 ((i:Int)+1)=((i+1:Nat):Int):=by rw [wrap64]<;>omega
     have w1:au .i64 1=1:=rfl
     have w2:au .i64 2=2:=rfl
     have w3:au .i64 3=3:=rfl
     have z:=flat3_at (fun(i:Nat)=>(⟨i,0,9,(A.getD i default).s,0,n⟩:Pl)) (fun(i:Nat)=>⟨i,1,9,(A.getD i default).t,0,n⟩) (fun(i:Nat)=>⟨i,2,10,(A.getD i default).w,0,2147483648⟩) A.length i hlt
     have B:A.getD i default=A[i]:=by simp [zk,hlt]
     simp only [BS,LB,Nat.reduceLT,Nat.reduceEqDiff,Fb,r11,r12,r13,aI,hlt,q,y]
     refine am aF S ?_;clear S;intro h C S M
     simp only [BS,LB,Nat.reduceLT,Nat.reduceEqDiff,cG]
     refine aH (S.store (i:=0) rfl ?_ ?_ rfl rfl ?_ ono) ?_
     . exact(by exact Tryz.t99.2.1)
     . exact(by intro x e;cases e)
     . exact lbt rfl
     clear S;rintro h ⟨S,f⟩;clear f;simp only [LC,ah,lay,zo,zp,Nat.reduceAdd]at S
     simp only [BS,LB,Nat.reduceLT,Nat.reduceEqDiff,Nat.reduceAdd,Fb,r3,S.ld (b:=C) (o:=0) m0 rfl,S.ld (b:=C) (o:=1) m0 rfl,S.ld (b:=C) (o:=2) m0 rfl]
     refine am (bW (by exact Tryz.t321.1) (by exact Tryz.e262E) (by decide) (by rfl)) S ?_;clear S;intro h g S N;simp only [LC,aV,bJ,ah,Nat.reduceMul,Nat.reduceAdd,zx,zt,zu,zD]at S
     simp only [BS,LB,Nat.reduceLT,Nat.reduceEqDiff,zz,Fb]
     have O:g∉F:=fun l=>by have:=s.lt _ l;omega
     have R:Row h g _ 1:=S.row m0
     have aa:=R.lt S.ok
     rw [ce]
     simp only [BS,LB,Nat.reduceLT,Nat.reduceEqDiff,Int.reduceToNat,Int.reduceLE,Int.reduceLT,zz,Fb,S.lds (b:=g) (o:=0) (n:=6) m0 (lbt rfl)]
     refine am aF S ?_;clear S;intro h b7 S P
     simp only [BS,LB,Nat.reduceLT,Nat.reduceEqDiff,zO,zK,zP]
     refine aH (S.store (i:=0) rfl ?_ ?_ rfl rfl ?_ ono) ?_
     . exact(by exact Tryz.t262.2.1)
     . exact(by intro x e;cases e)
     . exact lbt rfl
     clear S;rintro h ⟨S,f⟩;clear f;simp only [LC,ah,lay,zo,zp,Nat.reduceAdd]at S
     simp only [BS,LB,Nat.reduceLT,Nat.reduceEqDiff,Fb,r0,S.lds (b:=b7) (o:=0) (n:=6) m0 (lbt rfl)]
     have R:Row h g _ 1:=S.row m1
     refine ef j (s.gr S.gr) (j.gr _ _ _ _ t S.gr) (i:=3*i) (by rw [zJ,show(plA n A)[3*i]? =_ from z.1,B];simp [im]) ?_ ?_ ?_
     . intro h2 F2 a Q D E
       have R0:=R
       replace R:Row h2 g _ 1:=R.of_get (D.get _ (R.lt S.ok) O)
       have G:g∉F2:=fun l=>by
        rcases E _ l with l|l
        . exact O l
        . have:=R0.lt S.ok;omega
       have S:=Si Q.ok
       simp only [BS,LB,Nat.reduceLT,Nat.reduceEqDiff,Int.reduceAdd,w1]
       rw [ce]
       simp only [BS,LB,Nat.reduceLT,Nat.reduceEqDiff,Int.reduceToNat,Int.reduceLE,Int.reduceLT,zz,Nat.reduceMul,Fb,R.load (o:=6) (n:=6) (lbt rfl)]
       refine am aF S ?_;clear S;intro h b8 S T
       simp only [BS,LB,Nat.reduceLT,Nat.reduceEqDiff,Xk,zO,zK,zP]
       refine aH (S.store (i:=0) rfl ?_ ?_ rfl rfl ?_ ono) ?_
       . exact(by exact Tryz.t262.2.1)
       . exact(by intro x e;cases e)
       . exact lbt rfl
       clear S;rintro h ⟨S,f⟩;clear f;simp only [LC,ah,lay,zo,zp,Nat.reduceAdd]at S
       simp only [BS,LB,Nat.reduceLT,Nat.reduceEqDiff,Fb,r0,S.lds (b:=b8) (o:=0) (n:=6) m0 (lbt rfl)]
       replace R:=R.gr S.gr
       refine ef j (Q.gr S.gr) (j.gr _ _ _ _ a S.gr) (i:=3*i+1) (by rw [zJ,show(plA n A)[3*i+1]? =_ from z.2.1,B];simp [im]) ?_ ?_ ?_
       . intro h3 F3 a U H ac
         replace R:Row h3 g _ 1:=R.of_get (H.get _ (R.lt S.ok) G)
         have S:=Si U.ok
         simp only [BS,LB,Nat.reduceLT,Nat.reduceEqDiff,Int.reduceAdd,w2]
         rw [ce]
         simp only [BS,LB,Nat.reduceLT,Nat.reduceEqDiff,Int.reduceToNat,Int.reduceLE,Int.reduceLT,zz,Nat.reduceMul,Fb,R.load (o:=12) (n:=6) (lbt rfl)]
         refine am aF S ?_;clear S;intro h b9 S V
         simp only [BS,LB,Nat.reduceLT,Nat.reduceEqDiff,Xk,zO,zK,zP]
         refine aH (S.store (i:=0) rfl ?_ ?_ rfl rfl ?_ ono) ?_
         . exact(by exact Tryz.t262.2.1)
         . exact(by intro x e;cases e)
         . exact lbt rfl
         clear S;rintro h ⟨S,f⟩;clear f;simp only [LC,ah,lay,zo,zp,Nat.reduceAdd]at S
         simp only [BS,LB,Nat.reduceLT,Nat.reduceEqDiff,Fb,r0,S.lds (b:=b9) (o:=0) (n:=6) m0 (lbt rfl)]
         refine ef j (U.gr S.gr) (j.gr _ _ _ _ a S.gr) (i:=3*i+2) (by rw [zJ,show(plA n A)[3*i+2]? =_ from z.2.2,B];simp [im]) ?_ ?_ ?_
         . intro h4 F4 a s4 ad af
           simp only [BS,LB,Nat.reduceLT,Nat.reduceEqDiff,Int.reduceAdd,w3]
           rw [ce]
           simp only [BS,LB,Nat.reduceLT,Nat.reduceEqDiff,Int.reduceLT,r13,w]
           exact ih (i+1) _ _ (by omega) ⟨by omega,F4,s4,a,by simp [ab,r0],by simp [ab,r3],by simp [ab,r11],by simp [ab,r12],by simp [ab]⟩
         . intro r a _
           simp only [BS,LB,Nat.reduceLT,Nat.reduceEqDiff]
           exact iQ rfl ⟨rfl,.inr (.inl ⟨_,rfl,a⟩)⟩
         . intro v r a
           simp only [BS]
           exact iL (dE ⟨rfl,.inr (.inr ⟨_,rfl,a⟩)⟩)
       . intro r a _
         simp only [BS,LB,Nat.reduceLT,Nat.reduceEqDiff]
         exact iQ rfl ⟨rfl,.inr (.inl ⟨_,rfl,a⟩)⟩
       . intro v r a
         simp only [BS]
         exact iL (dE ⟨rfl,.inr (.inr ⟨_,rfl,a⟩)⟩)
     . intro r a _
       simp only [BS,LB,Nat.reduceLT,Nat.reduceEqDiff]
       exact iQ rfl ⟨rfl,.inr (.inl ⟨_,rfl,a⟩)⟩
     . intro v r a
       simp only [BS]
       exact iL (dE ⟨rfl,.inr (.inr ⟨_,rfl,a⟩)⟩)
   . simp only [BS,LB,Nat.reduceLT,r12,r13,aI,hlt]
     have:i=A.length:=by omega
     subst this
     exact dS (dE ⟨rfl,_,rfl,rfl,.inl ⟨_,F,rfl,by simpa [plA_len]using t⟩⟩)
 . exact⟨by omega,F,s,t,by simp [ab,cC],by simp [ab],by simp [ab],by simp [ab],by simp [ab]⟩
def Tryz.F0k:=aj t1<|aj t2<|aj t3<|aj t24<|aj t29<|aj Z0<|aj t45<|aj Z1<|t256
def Tryz.F0l:=aj t1<|aj t2<|aj t3<|aj t24<|aj t29<|aj Z0<|aj Z1<|t256
def Tryz.F0m:=aj t1<|aj t2<|aj t3<|aj t24<|aj t29<|aj Z0<|aj t45<|aj Z1<|t256
def Tryz.F0n:=aj t1<|aj t2<|aj t3<|aj t24<|aj t29<|aj Z0<|aj Z1<|t256
def Tryz.F0o:=aj t1<|aj t2<|aj t3<|aj t24<|aj t29<|aj Z0<|aj Z1<|t256
theorem look1_ok{h0:Hp}(e:h0.t.Sized h0.n){c:Gra}(a:Good c){f i j:Value}{b:Nat}(k:Row h0 b [.int .i64 c.nodes,f,i,j] 1):Ret zj 181 [ptrTo b] h0 fun v d=>Gr h0 d/\kR 0 h0.n v d:=by
 have S:=Si e
 have l:=a.n1
 have m:=a.n2
 refine ag (n:=5) (rs:=[.tmp 1]) rfl Tryz.e181 rfl rfl rfl (lbt rfl) ?_
 simp only [BS,LB,Nat.reduceLT,Nat.reduceEqDiff,F0k,k.load1 (o:=0) rfl]
 refine step_ret (one_ok S.ok (by omega) (by omega)) ?_;intro v h ⟨g,t⟩;replace S:=S.call g;clear g
 simp only [BS,LB,ae,Nat.reduceLT,Nat.reduceEqDiff]
 exact⟨S.gr,t⟩
theorem look2_ok{h0:Hp}(j:h0.t.Sized h0.n){a:Gra}(c:Good a){d e f:Value}(k:cJ h0 d e f a){b:Nat}(l:Row h0 b [.int .i64 a.nodes,d,e,f] 1):Ret zj 183 [ptrTo b] h0 fun v i=>Gr h0 i/\kR 0 h0.n v i:=by
 have S:=Si j
 refine ag (n:=4) (rs:=[.tmp 1]) rfl Tryz.e183 rfl rfl rfl (lbt rfl) ?_
 simp only [BS,LB,Nat.reduceLT,Nat.reduceEqDiff,F0l,l.load (o:=0) (n:=4) (lbt rfl)]
 refine step_ret (shapes_ok S.ok c k) ?_;intro v h ⟨g,t⟩;replace S:=S.call g;clear g
 simp only [BS,LB,ae,Nat.reduceLT,Nat.reduceEqDiff]
 exact⟨S.gr,t⟩
theorem look4_ok{h0:Hp}(j:h0.t.Sized h0.n){a:Gra}(c:Good a){d e f:Value}(k:cJ h0 d e f a){b:Nat}(l:Row h0 b [.int .i64 a.nodes,d,e,f] 1):Ret zj 187 [ptrTo b] h0 fun v i=>Gr h0 i/\kR 0 h0.n v i:=by
 have S:=Si j
 have m:=c.many
 refine ag (n:=6) (rs:=[.tmp 1]) rfl Tryz.e187 rfl rfl rfl (lbt rfl) ?_
 simp only [BS,LB,Nat.reduceLT,Nat.reduceEqDiff,F0m,l.load1 (o:=3) rfl,k.A.lenq]
 refine step_ret (one_ok S.ok (by omega) (by omega)) ?_;intro v h ⟨g,t⟩;replace S:=S.call g;clear g
 simp only [BS,LB,ae,Nat.reduceLT,Nat.reduceEqDiff]
 exact⟨S.gr,t⟩
theorem look3_ok{h0:Hp}(w:h0.t.Sized h0.n){d:Gra}(a:Good d){k l r:Value}(s:cJ h0 k l r d){b m:Nat}(x: ∀c,av k c->c<m)(y: ∀c,av l c->c<m)(z:Row h0 b [.int .i64 d.nodes,k,l,r] 1):Ret zj 185 [ptrTo b] h0 fun v t=>Gr h0 t/\kR m h0.n v t:=by
 have S:=Si w
 have A:=a.n2
 have B:=a.lX
 have C:=a.lY
 refine ag (n:=4) (rs:=[.tmp 1]) rfl Tryz.e185 rfl rfl rfl (lbt rfl) ?_
 simp only [BS,LB,Nat.reduceLT,Nat.reduceEqDiff,F0n,z.load (o:=0) (n:=4) (lbt rfl)]
 refine step_ret (nodes_ok S.ok) ?_;intro v h ⟨g,b2,e,q2,R⟩;replace S:=S.call g;clear g
 subst e
 simp only [BS,LB,ae,Nat.reduceLT,Nat.reduceEqDiff]
 refine⟨S.gr,_,#[],#[ptrTo b2],_,_,rfl,yH S.ok R (s.X.gr S.gr) (s.Y.gr S.gr) (by omega) (by omega),fun p q=>?_,fun c f=>?_⟩
 . unfold plN at q
   simp only [List.mem_flatMap,Xf,List.mem_cons,List.not_mem_nil,or_false]at q
   obtain⟨i,u,rfl|rfl⟩:=q
   . have:=a.cX d.X[i] (zR u)
     simp only [zk,zI u,Xa];omega
   . have j:i<d.Y.length:=by omega
     have:=a.cY d.Y[i] (zR j)
     simp only [zk,zI j,Xa];omega
 . rcases f with rfl|f|f
   . exact .inr q2
   . exact .inl (x c f)
   . exact .inl (y c f)
theorem look5_ok{h0:Hp}(t:h0.t.Sized h0.n){d:Gra}(a:Good d){l m f:Value}(u:cJ h0 l m f d){b q:Nat}(w: ∀c,av f c->c<q)(x:Row h0 b [.int .i64 d.nodes,l,m,f] 1):Ret zj 188 [ptrTo b] h0 fun v r=>Gr h0 r/\kR q h0.n v r:=by
 have S:=Si t
 have y:=a.many
 refine ag (n:=4) (rs:=[.tmp 1]) rfl Tryz.e188 rfl rfl rfl (lbt rfl) ?_
 simp only [BS,LB,Nat.reduceLT,Nat.reduceEqDiff,F0o,x.load (o:=0) (n:=4) (lbt rfl)]
 refine step_ret (arcs_ok S.ok) ?_;intro v h ⟨g,b2,e,q2,R⟩;replace S:=S.call g;clear g
 subst e
 simp only [BS,LB,ae,Nat.reduceLT,Nat.reduceEqDiff]
 refine⟨S.gr,_,#[],#[ptrTo b2],_,_,rfl,arcs_iter S.ok R (u.A.gr S.gr) (by omega),fun p j=>?_,fun c k=>?_⟩
 . unfold plA at j
   simp only [List.mem_flatMap,Xf,List.mem_cons,List.not_mem_nil,or_false]at j
   obtain⟨i,s,h⟩:=j
   have:=a.arcs d.arcs[i] (zR s)
   simp only [zk,zI s,Xa]at h
   rcases h with rfl|rfl|rfl<;>(simp only [];omega)
 . rcases k with rfl|k
   . exact .inr q2
   . exact .inl (w c k)
def Tryz.Fx:=aj t1<|aj t2<|aj t3<|aj t4<|aj t5<|aj t6<|aj Z2<|aj Z5<|aj t17<|aj t19<|aj r19<|aj t20<|aj t24<|aj t29<|aj Z0<|aj t45<|aj Z1<|aj t102<|aj r102<|aj t104<|aj t183<|aj r183<|aj t256<|aj t258<|aj t260<|aj Z11<|Z17
theorem look_ok {h0:Hp} (z:h0.t.Sized h0.n) {P:Gra} (l:Good P) {vx vy va:Value} (A:cJ h0 vx vy va P):Ret zj 100 [ik P vx vy va] h0 fun v f=>Gr h0 f:=by
 have S:=Si z
 refine ag (n:=44) (rs:=[]) rfl Tryz.e100 rfl rfl rfl (lbt rfl) ?_
 simp only [BS,Nat.reduceLT,ik]
 refine am (bE (by intro x e;cases e)) S ?_;clear S;intro h b S af;simp only [ah]at S
 simp only [BS,LB,Nat.reduceLT,Nat.reduceEqDiff]
 refine am (bW (by exact Tryz.t260.1) (by exact Tryz.e258E) (by decide) (by rfl)) S ?_;clear S;intro h bs S aa;simp only [LC,aV,bJ,ah,Nat.reduceMul,Nat.reduceAdd,zx,zt,zu,zD]at S
 simp only [BS,LB,Nat.reduceLT,Nat.reduceEqDiff,zz,Fx]
 have Q: ∀i,i<5-> ∃g a c,[Value.func (.func 181) #[] #[.pointer (some ⟨b,0,none⟩)],.func (.func 183) #[] #[.pointer (some ⟨b,0,none⟩)],.func (.func 185) #[] #[.pointer (some ⟨b,0,none⟩)],.func (.func 187) #[] #[.pointer (some ⟨b,0,none⟩)],.func (.func 188) #[] #[.pointer (some ⟨b,0,none⟩)]][i]? =some (.func (.func g) a c)/\
  ∀f,Gr h f->Ret zj g (a.toList++c.toList) f fun v k=>Gr f k/\kR h0.n f.n v k:=by
  intro i hi
  have s:=S.row (b:=b) m1
  have r:=A.gr S.gr
  have R: ∀f v k,Gr f k/\kR 0 f.n v k->Gr f k/\kR h0.n f.n v k:=by
   rintro f v k ⟨a,T,a1,U,I,D,b1,b2,b3,B⟩
   exact⟨a,T,a1,U,I,D,b1,b2,b3,fun c t=>(B c t).elim (fun h=>by omega) .inr⟩
  match i,hi with
  |0,_=>exact⟨_,_,_,rfl,fun f g=>rK (look1_ok g.ok l (s.gr g)) (R f)⟩
  |1,_=>exact⟨_,_,_,rfl,fun f g=>rK (look2_ok g.ok l (r.gr g) (s.gr g)) (R f)⟩
  |2,_=>exact⟨_,_,_,rfl,fun f g=>look3_ok g.ok l (r.gr g) (fun c t=>A.X.lt z t) (fun c t=>A.Y.lt z t) (s.gr g)⟩
  |3,_=>exact⟨_,_,_,rfl,fun f g=>rK (look4_ok g.ok l (r.gr g) (s.gr g)) (R f)⟩
  |4,_=>exact⟨_,_,_,rfl,fun f g=>look5_ok g.ok l (r.gr g) (fun c t=>A.A.lt z t) (s.gr g)⟩
 have J:=S.row (b:=bs) m0
 have g0:=S.gr
 have C:=S.ok
 clear S A z
 revert Q J
 generalize [Value.func (.func 181) #[] #[.pointer (some ⟨b,0,none⟩)],.func (.func 183) #[] #[.pointer (some ⟨b,0,none⟩)],.func (.func 185) #[] #[.pointer (some ⟨b,0,none⟩)],.func (.func 187) #[] #[.pointer (some ⟨b,0,none⟩)],.func (.func 188) #[] #[.pointer (some ⟨b,0,none⟩)]]=fs
 intro Q J
 rename Hp=>E
 have ai:=J.lt C
 have ak:=g0.n
 have S:=Si C
 refine uj (fun(i:Nat) K d f=>i<=5/\ ∃j:List Nat,d=j.map qa/\St NoM E f (jm j) []/\K 10=.slice (some ⟨bs,0,none⟩) 5 5/\K 11=.int .i64 5/\K 12=.int .i64 i) (fun i=>5-i) ?_ 0 _ _ _ ?_
 . clear S
   intro i ih K d h ⟨hi,j,M,S,r10,r11,r12⟩
   have w:au .i64 ((i:Int)+1)=((i+1:Nat):Int):=by rw [wrap64]<;>omega
   by_cases hlt:i<5
   . obtain⟨g,a,c,V,s⟩:=Q i hlt
     have Rl:=(J.gr S.gr).load1 V
     have m:(i:Int)<5:=by omega
     simp only [BS,LB,Nat.reduceLT,Nat.reduceEqDiff,Fx,r10,r11,r12,m,hlt,Rl]
     refine am aF S ?_;clear S;intro h b2 S ac
     simp only [BS,LB,Nat.reduceLT,Nat.reduceEqDiff]
     refine aH (aC S (i:=0) rfl ?_ ?_ ?_ ono) ?_
     . exact(by simp only [Fx])
     . exact(by exact bI)
     . exact zq (lbt rfl)
     clear S;rintro h ⟨S,W⟩;clear W;simp only [LC,ah,lay,zo,zp,Nat.reduceAdd]at S
     simp only [BS,LB,Nat.reduceLT,Nat.reduceEqDiff]
     replace S:=S.drop1
     have kl: ∀b∈keys (jm j) [],b<h.n:=fun b q=>S.key_lt q
     refine step_ret (s _ S.gr) ?_;intro v h ⟨g,T,U,post,I,D,e,it,hps,hD⟩;replace S:=S.call g;clear g
     subst e
     simp only [BS]
     refine kZ S (g:=T) (a:=U) (b:=post) (by simp [cy,ab]) rfl rfl ?_
     intro N G H u al an g2
     obtain⟨X,hX,u⟩: ∃X:fG,X=_/\St NoM E N ((H,.loop X)::(G,.dfr)::jm j) []:=⟨_,rfl,u⟩
     have hJ:Yld zj H (fun _ f F=>St NoM E f ((H,.loop X)::(G,.dfr)::jm j) []/\F=keys ((H,.loop X)::(G,.dfr)::jm j) []) (fun _ _=>False) (I.map fun p=>[.agg ⟨im p⟩]):=by
      refine⟨?_,?_,fun _ _ h=>h.elim,?_⟩
      . rintro i h F ⟨S,rfl⟩;exact⟨S.ok,fun b q=>S.key_lt q⟩
      . rintro i h F f ⟨S,rfl⟩ g;exact⟨S.call g,rfl⟩
      . rintro i x h F hx ⟨S,rfl⟩
        obtain⟨p,hp,rfl⟩: ∃p∈I,x=[.agg ⟨im p⟩]:=by
         rw [zJ,Option.map_eq_some_iff]at hx
         obtain⟨p,E,N⟩:=hx
         exact⟨p,zM E,N.symm⟩
        obtain⟨p1,p2⟩:=hps p hp
        have Y: ¬p.n<p.lo:=by omega
        have Z: ¬p.hi<=p.n:=by omega
        subst hX
        refine lz (S.get m0) (by rw [Tryz.e100];rfl) rfl ?_
        have S0:=S
        replace S:=S.base
        simp only [BS,Fx]
        refine am aF S ?_;clear S;intro h B S ad
        simp only [BS,LB,Nat.reduceLT,Nat.reduceEqDiff,im]
        refine aH (S.store (i:=0) rfl ?_ ?_ rfl rfl ?_ ono) ?_
        . exact(by exact Tryz.t262.2.1)
        . exact(by intro x e;cases e)
        . exact lbt rfl
        clear S;rintro h ⟨S,W⟩;clear W;simp only [LC,ah,lay,zo,zp,Nat.reduceAdd]at S
        simp only [BS]
        refine jB S (i:=1) rfl rfl rfl rfl rfl ?_
        clear S;intro h S
        simp only [BS,LB,Nat.reduceLT,Nat.reduceEqDiff,Fx,Y,Z,S.ld (b:=B) (o:=3) m0 rfl,S.ld (b:=B) (o:=4) m0 rfl,S.ld (b:=B) (o:=5) m0 rfl]
        refine gH S (i:=1) rfl ?_
        clear S;intro h S
        exact .inl ⟨rfl,_,⟨S0.rebase S.drop1,rfl⟩,S.fr,S.drop1.key_new⟩
     refine iN (wh it hJ (h:=N) (F:=keys ((H,.loop _)::(G,.dfr)::jm j) []) g2.fr (fun b q hlt=>?_) ⟨u,rfl⟩) fun o rc f y=>lx y ?_
     . intro M
       have O:=u.key_own q
       rcases hD b M with hh|hh
       . rcases O with O|O
         . omega
         . exact O
       . rcases List.mem_cons.1 q with rfl|q
         . omega
         . rcases List.mem_cons.1 q with rfl|q
           . omega
           . have:=kl b q;omega
     . rintro F ⟨S,rfl⟩
       subst hX
       refine⟨_,S.get m0,Nat.zero_ne_one,?_⟩
       replace S:=S.dead
       show Run _ _ _ _ _ _ _ _
       simp only [BS,LB,Nat.reduceLT,Nat.reduceEqDiff,r12,w]
       exact ih (i+1) _ _ _ (by omega) ⟨by omega,G::j,by rw [M];rfl,S,by simp [ab,r10],by simp [ab,r11],by simp [ab]⟩
   . have m: ¬(i:Int)<5:=by omega
     simp only [BS,LB,Nat.reduceLT,r11,r12,m]
     subst M
     refine dS (kc j h (L:=[]) (by rw [z7];exact S) fun f u=>⟨rfl,_,rfl,g0.trans u.gr⟩)
 . exact⟨by omega,[],rfl,S,by simp [ab],by simp [ab],by simp [ab]⟩
end Go.Ab
end
section
namespace Go.Ab
theorem ax.form{α:Type}{h:Hp}{k:Nat}{enc:α->List Value}{v:Value}{xs:List α}(s:ax h k enc v xs): ∃a n c,v=.slice a n c:=by
 rcases s with⟨rfl,_⟩|⟨b,o,s,c,rfl,_⟩<;>exact⟨_,_,_,rfl⟩
section
variable{M:Nat->Prop}{h0 h:Hp}{E:Env}{L:List (Nat×Ob)}{G:List GL}
def WrK{α:Type}(h:Hp)(k:Nat)(enc:α->List Value)(w:Value)(l:List α):Prop:=l≠ []-> ∃b,w=.slice (some ⟨b,0,some k⟩) l.length l.length/\Row h b (l.flatMap enc) 1
theorem WrK.mo{α:Type}{M:Nat->Prop}{h a:Hp}{k:Nat}{enc:α->List Value}{w:Value}{l:List α}(r:WrK h k enc w l)(g:Mo M h a)(c: ∀b,av w b-> ¬M b):WrK a k enc w l:=
 fun d=>by obtain⟨b,e,k⟩:=r d;exact⟨b,e,g.has (o:=.row _ 1) k (c b (by rw [e];rfl))⟩
theorem St.cloneW{α:Type}{enc:α->List Value}{ys:List α}(S:St M h0 h L G){t i e:TypeId}{d k md:Nat}{z:List Value}{b:Nat}{x:Value}(m:E.und t=some (.slice e))(o:dD E e d k z)(p:0<d)
 (q:dh E i=some false) (r:ax h k enc x ys) (f: ∀x,(enc x).length=k) (s:0<k) (g:(ys.length*k)*(d+1)<=70368744177664) {ts:List TypeId}
 (u:Row h b [] md):
 ∃a v',cV E h (t::i::ts) (.slice (some ⟨b,0,none⟩) 0 0) x=some (a,v')/\St M h0 a L G/\Gr h a/\ax a k enc v' ys/\(∀c,av v' c->c=b\/h.n<=c)/\WrK a k enc v' ys:=by
 obtain⟨a,v',v,A,B,C,D⟩:=S.cloneSl (enc:=enc) (xs:=[]) m o p q r f s (by simpa using g) (ts:=ts) (b:=b) (md:=md) (by simpa using u)
 refine⟨a,v',v,A,B,by simpa using C,D,fun j=>?_⟩
 obtain⟨F,H,w,I⟩:=S.clone m o p q r.src (aU f ys).symm (n:=0) (by simp) s (by rw [aU f];simpa using g) (ts:=ts) u
 have l:cV E h (t::i::ts) (.slice (some ⟨b,0,none⟩) 0 0) x=some (a,v'):=v
 rw [l]at w
 cases w
 rcases I with⟨J,_⟩|⟨y,K,T⟩
 . exact absurd (List.length_eq_zero_iff.1 J) j
 . refine⟨y,by rw [K,zt],?_⟩
   have:=T.row (b:=y) m0
   simpa using this
end
end Go.Ab

end
section
namespace Go.Ab
open Go.Proofs
set_option maxRecDepth 10000
def Tryz.F0p:=aj t1<|aj t2<|aj t3<|aj t4<|aj t5<|aj t20<|aj t41<|aj t102<|aj r102<|aj t104<|aj t183<|r183
def Tryz.FM:=aj t1<|aj t2<|aj t3<|aj t24<|aj t29<|aj Z0<|aj t41<|Z1
def Tryz.FS:=aj t1<|aj t2<|aj t3<|aj t4<|t24
def Tryz.FT:=aj t1<|aj t2<|aj t3<|aj t4<|aj t29<|Z1
theorem check1_ok{h0:Hp}(a:h0.t.Sized h0.n){b:Nat}:fu zj 99 [ptrTo b] none h0 fun o c d=>(∃v,o=.ret v)/\c=none/\Gr h0 d:=by
 have S:=Si a
 refine enter (n:=17) (rs:=[]) rfl Tryz.e99 rfl rfl rfl (lbt rfl) ?_
 simp only [BS,LB,Nat.reduceLT,Nat.reduceEqDiff,F0p]
 exact dS (dE ⟨rfl,_,rfl,⟨_,rfl⟩,rfl,S.gr⟩)
theorem check_ok{h0:Hp}(p:h0.t.Sized h0.n){c:Gra}(d:Good c){f j k:Value}(q:cJ h0 f j k c):aW zj 43 [ik c f j k] h0 .nilIface:=by
 have S:=Si p
 refine ag (n:=6) (rs:=[.cell 2 41]) rfl Tryz.e43 rfl rfl rfl (lbt rfl) ?_
 simp only [BS,Nat.reduceLT,ik]
 refine am (bE (by intro x e;cases e)) S ?_;clear S;intro h b S r;simp only [ah]at S
 simp only [BS,FM]
 refine am aF S ?_;clear S;intro h s S m
 simp only [BS,LB,Nat.reduceLT,Nat.reduceEqDiff,FM,S.lds (b:=b) (o:=0) (n:=4) m1 (lbt rfl)]
 refine step_ret (look_ok S.ok d (q.gr S.gr)) ?_;intro v h g;replace S:=S.call g;clear g
 simp only [BS,LB,Nat.reduceLT,Nat.reduceEqDiff]
 refine aH (aC S (i:=0) rfl ?_ ?_ ?_ ono) ?_
 . exact(by simp only [FM])
 . exact(by exact fl_nili)
 . exact zq (lbt rfl)
 clear S;rintro h ⟨S,t⟩;clear t;simp only [LC,ah,lay,zo,zp,Nat.reduceAdd]at S
 simp only [BS]
 refine gL (un_fn (iN (check1_ok S.ok) fun o u w ⟨a,b,g⟩=>⟨a,b,dE ⟨rfl,?_⟩⟩))
 replace S:=S.call g
 have l:=S.ld (b:=s) (o:=0) m0 rfl
 exact⟨_,tu (by decide) (by simp only [aQ,ao,Nat.reduceEqDiff,reduceIte];exact me Tryz.t41.1 l),rfl,S.gr⟩
theorem oD{h0:Hp}(i:h0.t.Sized h0.n){v:Value}{xs:List Int}(j:ax h0 1 (encI .i64) v xs)(q:xs.length<1000000):Ret zj 105 [v] h0 fun r a=>Gr h0 a/\ax a 1 (encI .i64) r xs/\ ∀c,av r c->h0.n<=c:=by
 have S:=Si i
 rcases j with⟨rfl,rfl⟩|⟨b,o,s,c,rfl,k,l⟩
 . refine ag (n:=8) (rs:=[.tmp 2]) rfl Tryz.e105 rfl rfl rfl (lbt rfl) ?_
   simp only [BS,LB,ae,Nat.reduceLT,Nat.reduceEqDiff,FS]
   exact⟨S.gr,.inl ⟨rfl,rfl⟩,fun c d=>d.elim⟩
 . refine ag (n:=8) (rs:=[.tmp 2]) rfl Tryz.e105 rfl rfl rfl (lbt rfl) ?_
   simp only [BS,LB,Nat.reduceLT,Nat.reduceEqDiff,FS]
   refine am (bW (by exact Tryz.t24.1) (by exact Tryz.e2E) (by decide) (by rfl)) S ?_;clear S;intro h t S f;simp only [LC,aV,bJ,ah,Nat.reduceMul,Nat.reduceAdd,zx,zt,zu,zD]at S
   simp only [BS,LB,Nat.reduceLT,Nat.reduceEqDiff]
   refine dQ (S.cloneSl (enc:=encI .i64) (xs:=[]) Tryz.t24.1 Tryz.e2E (by decide) Tryz.t24.2.2.2.2.2 (.inr ⟨b,o,s,c,rfl,k,S.old l (fun h=>h)⟩) (fun x=>rfl) (by decide) (by simp only [List.length_nil,zt];omega) (S.row m0)) ?_
   rintro a v ⟨m,g,p,d⟩
   simp only [BS,LB,ae,Nat.reduceLT,Nat.reduceEqDiff]
   refine⟨m.gr,by simpa using p,fun c h=>(d c h).elim (fun e=>by omega) (fun e=>zC S.fr.n e)⟩
theorem xU{h0:Hp}(i:h0.t.Sized h0.n){v:Value}{xs:List Arc}(j:ax h0 3 (cG) v xs)(q:xs.length<1000000):Ret zj 106 [v] h0 fun r a=>Gr h0 a/\ax a 3 (cG) r xs/\(∀c,av r c->h0.n<=c)/\WrK a 3 cG r xs:=by
 have S:=Si i
 rcases j with⟨rfl,rfl⟩|⟨b,o,s,c,rfl,k,l⟩
 . refine ag (n:=8) (rs:=[.tmp 2]) rfl Tryz.e106 rfl rfl rfl (lbt rfl) ?_
   simp only [BS,LB,ae,Nat.reduceLT,Nat.reduceEqDiff,FT]
   exact⟨S.gr,.inl ⟨rfl,rfl⟩,fun c d=>d.elim,fun h=>absurd rfl h⟩
 . refine ag (n:=8) (rs:=[.tmp 2]) rfl Tryz.e106 rfl rfl rfl (lbt rfl) ?_
   simp only [BS,LB,Nat.reduceLT,Nat.reduceEqDiff,FT]
   refine am (bW (by exact Tryz.t29.1) (by exact Tryz.e99E) (by decide) (by rfl)) S ?_;clear S;intro h t S f;simp only [LC,aV,bJ,ah,Nat.reduceMul,Nat.reduceAdd,zx,zt,zu,zD]at S
   simp only [BS,LB,Nat.reduceLT,Nat.reduceEqDiff]
   refine dQ (S.cloneW (enc:=cG) (ys:=xs) Tryz.t29.1 Tryz.e99E (by decide) Tryz.t29.2.2.2.2.2 (.inr ⟨b,o,s,c,rfl,k,S.old l (fun h=>h)⟩) (fun x=>rfl) (by decide) (by omega) (S.row m0)) ?_
   rintro a v ⟨m,g,p,d,w⟩
   simp only [BS,LB,ae,Nat.reduceLT,Nat.reduceEqDiff]
   exact⟨m.gr,p,fun c h=>(d c h).elim (fun e=>by omega) (fun e=>zC S.fr.n e),w⟩
def Tryz.FD:=aj t1<|aj t2<|aj t3<|aj t4<|aj t5<|aj t22<|aj t36<|aj t38<|r38
structure lJ(h:Hp)(bd:Nat)(vB:Value)(xs:List Int)(a:Nat):Prop where
 sl:ax h 1 (encI .u8) vB xs
 ne: ¬av vB bd
 few:xs.length<1000000
 at_:a<100000
def drV(xs:List Int)(n a:Nat):Nat:=if h:xs.length=0 then 0 else(au .u8 (xs[a%xs.length]'(Nat.mod_lt _ (by omega))+au .u8 (au .i64 ((a:Int).tdiv (xs.length:Int))))%(n:Int)).toNat
theorem uT{h0:Hp}(B:h0.t.Sized h0.n){d a n:Nat}{f:Value}{xs:List Int}(m:Row h0 d [f,.int .i64 a] 1)(C:lJ h0 d f xs a)(K:1<=n)(D:n<1000):
 Ret zj 41 [ptrTo d,.int .i64 n] h0 fun v w=>Mo (· =d) h0 w/\ ∃r x:Nat,v=.int .i64 r/\r<n/\x<=a+1/\Row w d [f,.int .i64 x] 1/\r=drV xs n a:=by
 have S:=St.init1 B (o:=.row [f,.int .i64 a] 1) m
 obtain⟨p,t,L,M⟩:=C
 have N:=p.fl
 have E:au .i64 ((a:Int)+1)=((a+1:Nat):Int):=by rw [wrap64]<;>omega
 have F:au .i64 (((a+1:Nat):Int)-1)=(a:Int):=by rw [wrap64]<;>omega
 have G: ¬(n:Int)<1:=by omega
 by_cases g:xs.length=0
 . have s:(xs.length:Int)=0:=by omega
   refine ag (n:=55) (rs:=[.tmp 4]) rfl Tryz.e41 rfl rfl rfl (lbt rfl) ?_
   simp only [BS,LB,ae,Nat.reduceLT,Nat.reduceEqDiff,FD,p.lenq,s,S.ld (b:=d) (o:=0) m0 rfl]
   exact⟨S.fr,0,a,rfl,by omega,by omega,S.row m0,by unfold drV;rw [dif_pos g]⟩
 . have s: ¬(xs.length:Int)=0:=by omega
   have j:a%xs.length<xs.length:=Nat.mod_lt _ (by omega)
   have H:(a:Int).tmod (xs.length:Int)=((a%xs.length:Nat):Int):=by rw [zU (by omega)];exact(Int.natCast_emod _ _).symm
   refine ag (n:=55) (rs:=[.tmp 4]) rfl Tryz.e41 rfl rfl rfl (lbt rfl) ?_
   simp only [BS,LB,Nat.reduceLT,Nat.reduceEqDiff,FD,p.lenq,s,G,E,S.ld (b:=d) (o:=0) m0 rfl,S.ld (b:=d) (o:=1) m0 rfl]
   refine aH (aC S (i:=0) rfl ?_ ?_ ?_ ono) ?_
   . exact(by simp only [FD])
   . exact(by exact bI)
   . exact zq (lbt rfl)
   clear S;rintro h ⟨S,I⟩;clear I;simp only [LC,ah,lay,zo,zp,Nat.reduceAdd]at S
   have k:ax h 1 (encI .u8) f xs:=p.mo S.fr (fun b J e=>t (e▸J))
   obtain⟨c,o,l,u⟩:=k.ix (kd:=.i64) (cO _) j
   have y:(xs.length:Int)≠0:=s
   have A:(n:Int)≠0:=by omega
   simp only [BS]
   refine aE (aK rfl) (q:=0) (ps:=[]) (by kernel_rfl) ?_
   simp only [BS,LB,jK,ct,jR,cls,ae,Nat.reduceLT,Nat.reduceEqDiff,Nat.reduceAdd,Nat.reducePow,Nat.reduceDiv,Nat.reduceMod,Nat.reduceLeDiff,FD,k.lenq,F,ou y,qv y,ou A,H,l,u,encI,S.ld (b:=d) (o:=0) m0 rfl,S.ld (b:=d) (o:=1) m0 rfl]
   have m:(au .i64 (au .u8 (xs[a%xs.length]+au .u8 (au .i64 ((a:Int).tdiv (xs.length:Int)))))).tmod (n:Int)=((drV xs n a:Nat):Int)/\drV xs n a<n:=by
    unfold drV
    rw [dif_neg g]
    generalize xs[a%xs.length]+au .u8 (au .i64 ((a:Int).tdiv (xs.length:Int)))=z
    have O:=wrap8 z
    rw [wrap64 (by omega) (by omega),zU (by omega)]
    have P:=Int.emod_nonneg (au .u8 z) A
    have Q:=Int.emod_lt_of_pos (au .u8 z) (show(0:Int)<n by omega)
    exact⟨by omega,by omega⟩
   rw [m.1]
   exact⟨S.fr,_,a+1,rfl,m.2,zV _,S.row m0,rfl⟩
theorem fF{h0:Hp}(i:h0.t.Sized h0.n){b a n:Nat}{d:Value}{xs:List Int}(j:Row h0 b [d,.int .i64 a] 1)(k:lJ h0 b d xs a)(l:1<=n)(g:n<1000):
 Ret zj 41 [ptrTo b,.int .i64 n] h0 fun v h=>Mo (· =b) h0 h/\ ∃r c:Nat,v=.int .i64 r/\r<n/\c<=a+1/\Row h b [d,.int .i64 c] 1:=
 (uT i j k l g).mono fun v h ⟨f,r,c,e,m,o,p,_⟩=>⟨f,r,c,e,m,o,p⟩
theorem lJ.mo{h g:Hp}{c:Nat}{i:Value}{xs:List Int}{a j:Nat}(d:lJ h c i xs a)(f:Mo (· =c) h g)(k:j<100000):lJ g c i xs j:=
 ⟨d.sl.mo f (fun b l e=>d.ne (e▸l)),d.ne,d.few,k⟩
theorem lJ.gr{h b:Hp}{c:Nat}{e:Value}{xs:List Int}{a:Nat}(d:lJ h c e xs a)(g:Gr h b):lJ b c e xs a:=⟨d.sl.gr g,d.ne,d.few,d.at_⟩
theorem ud{h0:Hp}(y:h0.t.Sized h0.n){d a:Nat}{e:Value}{xs:List Int}(z:Row h0 d [e,.int .i64 a] 1)(s:lJ h0 d e xs a)(D:a+2<100000):
 Ret zj 42 [ptrTo d] h0 fun v t=>Mo (· =d) h0 t/\ ∃r u:Nat,v=.int .i64 r/\r<=2147483647/\u<=a+2/\Row t d [e,.int .i64 u] 1:=by
 have S:=St.init1 y (o:=.row [e,.int .i64 a] 1) z
 refine ag (n:=24) (rs:=[.tmp 2]) rfl Tryz.e42 rfl rfl rfl (lbt rfl) ?_
 simp only [BS,LB,Nat.reduceLT,Nat.reduceEqDiff]
 refine step_ret (fF (n:=12) S.ok (S.row m0) s (by omega) (by omega)) ?_
 rintro v h ⟨f,r,w,rfl,A,B,C⟩
 replace S:=S.call1 (i:=0) rfl f (o':=.row _ _) C
 have c:lJ h d e xs w:=s.mo f (by omega)
 simp only [LC]at S
 by_cases p:(r:Int)<3
 . simp only [BS,LB,ae,Nat.reduceLT,Nat.reduceEqDiff,p]
   exact⟨S.fr,0,w,rfl,by omega,by omega,S.row m0⟩
 . by_cases q:(r:Int)<10
   . simp only [BS,LB,Nat.reduceLT,Nat.reduceEqDiff,p,q]
     refine step_ret (fF (n:=9) S.ok (S.row m0) c (by omega) (by omega)) ?_
     rintro v h ⟨f,b,g,rfl,j,k,l⟩
     replace S:=S.call1 (i:=0) rfl f (o':=.row _ _) l
     simp only [LC]at S
     have m:au .i64 (1+(b:Int))=((1+b:Nat):Int):=by rw [wrap64]<;>omega
     simp only [BS,LB,ae,Nat.reduceLT,Nat.reduceEqDiff,m]
     exact⟨S.fr,1+b,g,rfl,by omega,by omega,S.row m0⟩
   . by_cases x:(r:Int)<11
     . simp only [BS,LB,Nat.reduceLT,Nat.reduceEqDiff,p,q,x]
       refine step_ret (fF (n:=20) S.ok (S.row m0) c (by omega) (by omega)) ?_
       rintro v h ⟨f,b,g,rfl,j,k,l⟩
       replace S:=S.call1 (i:=0) rfl f (o':=.row _ _) l
       simp only [LC]at S
       have m:au .i64 (100*(b:Int))=((100*b:Nat):Int):=by rw [wrap64]<;>omega
       simp only [BS,LB,ae,Nat.reduceLT,Nat.reduceEqDiff,m]
       exact⟨S.fr,100*b,g,rfl,by omega,by omega,S.row m0⟩
     . simp only [BS,LB,Nat.reduceLT,Nat.reduceEqDiff,p,q,x]
       refine step_ret (fF (n:=2) S.ok (S.row m0) c (by omega) (by omega)) ?_
       rintro v h ⟨f,b,g,rfl,j,k,l⟩
       replace S:=S.call1 (i:=0) rfl f (o':=.row _ _) l
       simp only [LC]at S
       have m:au .i64 (2147483647-(b:Int))=((2147483647-b:Nat):Int):=by rw [wrap64]<;>omega
       simp only [BS,LB,ae,Nat.reduceLT,Nat.reduceEqDiff,m]
       exact⟨S.fr,2147483647-b,g,rfl,by omega,by omega,S.row m0⟩
def Tryz.F0:=aj t1<|aj t2<|aj t3<|aj t4<|aj t5<|aj t6<|aj Z2<|aj Z5<|aj t9<|aj t10<|aj t11<|aj t12<|aj Z12<|aj t14<|aj r14<|aj t15<|aj t16<|aj t17<|aj t18<|aj r18<|aj t19<|aj r19<|aj t20<|aj t21<|aj t22<|aj t23<|aj t24<|aj t29<|aj Z0<|aj t36<|aj t38<|aj r38<|aj Z1<|aj t181<|aj t271<|aj t358<|aj Z14<|aj t372<|aj t374<|aj t376<|aj t377<|aj t378<|aj t379<|Z17
def ints(l:List Int):List Value:=l.flatMap (encI .i64)
theorem cZ(l:List Int):(ints l).length=l.length:=by unfold ints;rw [aU (k:=1) (fun _=>rfl)];omega
theorem mJ(l m:List Int):ints (l++m)=ints l++ints m:=by unfold ints;rw [zG]
theorem raw0_ok {h0:Hp} (ok:h0.t.Sized h0.n) {B:Nat} {V:Value} {xs:List Int} (hr:Row h0 B [V,.int .i64 ((0:Nat):Int)] 1) (P:lJ h0 B V xs 0):
 Ret zj 9 [ptrTo B] h0 fun v h'=>Mo (· =B) h0 h'/\ ∃γ vx vy va,v=ik γ vx vy va/\Good γ/\γ.nodes=1+drV xs 12 0/\cJ h' vx vy va γ/\ ∀c,(av vx c\/av vy c\/av va c)->h0.n<=c:=by
 have S:=St.init1 ok (o:=.row [V,.int .i64 ((0:Nat):Int)] 1) hr
 have b1:=hr.lt ok
 refine ag (n:=117) (rs:=[.cell 2 31]) rfl Tryz.e9 rfl rfl rfl (lbt rfl) ?_
 simp only [BS,F0]
 refine am aF S ?_;clear S;intro h L S bF
 simp only [BS,LB,Nat.reduceLT,Nat.reduceEqDiff]
 refine step_ret (uT (n:=12) (a:=0) S.ok (S.row m1) (P.mo S.fr (by omega)) (by omega) (by omega)) ?_
 rintro v h ⟨f,r,a0,rfl,b4,b5,R,b6⟩
 replace S:=S.call1 (i:=1) rfl f (o':=.row _ _) R
 simp only [LC]at S
 have w1:au .i64 (1+(r:Int))=((1+r:Nat):Int):=by rw [wrap64]<;>omega
 simp only [BS,LB,Nat.reduceLT,Nat.reduceEqDiff,Nat.reduceAdd,F0,w1]
 refine am aF S ?_;clear S;intro h s S bT
 simp only [BS,LB,Nat.reduceLT,Nat.reduceEqDiff]
 refine aH (S.store (i:=0) rfl ?_ ?_ rfl rfl ?_ ono) ?_
 . exact(by exact Tryz.t7.2.1)
 . exact(by intro x e;cases e)
 . exact lbt rfl
 clear S;rintro h ⟨S,M⟩;clear M;simp only [LC,ah,lay,zo,zp,Nat.reduceAdd]at S
 simp only [BS]
 replace S:=((S.nilG (k:=3)).nilG (k:=1)).nilG (k:=1)
 generalize hN:1+r=N at S
 refine bg (fun(i:Nat) g h=>i<=N/\ ∃(a:Nat) (D G:Value) (X Y:List Int),a<=1+2*i/\X.length=i/\Y.length=i/\(∀x∈X,-2147483648<=x/\x<=2147483647)/\(∀x∈Y,-2147483648<=x/\x<=2147483647)/\
  St (· =B) h0 h [(s,.row [.int .i64 N,D,G,.slice none 0 0] 1),(L,.row [.int .i64 0,.slice none 0 0,.slice none 0 0,.slice none 0 0] 1),(B,.row [V,.int .i64 a] 1)] [(D,1,ints X),(G,1,ints Y),(.slice none 0 0,3,[])]/\
  g 0=ptrTo B/\g 2=ptrTo L/\g 3=ptrTo s/\g 4=.int .i64 i) (fun i=>N-i) ?_ 0 _ _ ?_
 . clear S
   intro i T g h ⟨hi,a,D,G,X,Y,ha,lX,lY,cX,cY,S,r,y,d,r4⟩
   by_cases hlt:i<N
   . simp only [BS,LB,Nat.reduceLT,Nat.reduceEqDiff,F0,d,r4,aI,hlt,S.ld (b:=s) (o:=0) m0 rfl]
     refine aE (aK rfl) (q:=32) (ps:=[(1,3)]) (by kernel_rfl) ?_
     simp only [BS,LB,cls,Nat.reduceLT,Nat.reduceEqDiff,Nat.reduceAdd,Nat.reducePow,Nat.reduceDiv,Nat.reduceMod,Nat.reduceLeDiff,F0,r,d,S.ld (b:=s) (o:=1) m0 rfl]
     refine cM (fF (n:=9) (a:=a) S.ok (S.row m2) (P.mo S.fr (by omega)) (by omega) (by omega)) ?_
     rintro v h ⟨f,r1,a1,rfl,b7,bk,R⟩
     have hl:=S.leaves (c:=s) m0 f (by omega)
     replace S:=S.call1 (i:=2) rfl f (o':=.row _ _) R
     simp only [LC]at S
     have w9:au .i64 ((r1:Int)-3)=(r1:Int)-3:=by rw [wrap64]<;>omega
     simp only [BS,LB,cls,Nat.reduceLT,Nat.reduceEqDiff,Nat.reduceAdd,Nat.reducePow,Nat.reduceDiv,Nat.reduceMod,Nat.reduceLeDiff,w9]
     refine dw (bW (by exact Tryz.t24.1) (by exact Tryz.e2E) (by decide) (by rfl)) S ?_;clear S;intro h W S J aa;simp only [LC,aV,bJ,ah,Nat.reduceMul,Nat.reduceAdd,zx,zt,zu,zD]at S
     simp only [BS,LB,cls,Nat.reduceLT,Nat.reduceEqDiff,Nat.reduceAdd,Nat.reducePow,Nat.reduceDiv,Nat.reduceMod,Nat.reduceLeDiff]
     refine dn_v (S.grow (j:=0) (m:=1) (new:=ints [(r1:Int)-3]) rfl Tryz.t24.1 Tryz.e2E (by decide) Tryz.t24.2.2.2.2.2 (by simp only [aL];rw [S.lds (b:=W) (o:=0) (n:=1*1) m0 (lbt rfl)];rfl) rfl (by decide) rfl (by rw [cZ,cZ];simp;omega)) ?_
     clear S
     rintro h ak S
     simp only [LC]at S
     replace S:=S.drop1
     rw [<-mJ]at S
     have fX:Fl ak:=(S.gown _ m0).1.fl
     simp only [BS,LB,cls,Nat.reduceLT,Nat.reduceEqDiff,Nat.reduceAdd,Nat.reducePow,Nat.reduceDiv,Nat.reduceMod,Nat.reduceLeDiff,F0,d]
     refine cU (aC S (i:=0) rfl ?_ ?_ ?_ ono) ?_
     . exact(by simp only [F0])
     . exact(by assumption)
     . exact zq (lbt rfl)
     clear S;rintro h ⟨S,M⟩;clear M;simp only [LC,ah,lay,zo,zp,Nat.reduceAdd]at S
     simp only [BS,Nat.reduceAdd]
     refine⟨by simp only [bH,bN,a8,bP,bz,ne_eq,not_false_eq_true,bZ,cv,bV,bG,cy,dl,aQ,Nat.reduceLT,Nat.reduceEqDiff,reduceIte,zL,d,ao,aX hl],?_⟩
     refine aE (aK rfl) (q:=16) (ps:=[(1,3)]) (by kernel_rfl) ?_
     simp only [BS,LB,cls,Nat.reduceLT,Nat.reduceEqDiff,Nat.reduceAdd,Nat.reducePow,Nat.reduceDiv,Nat.reduceMod,Nat.reduceLeDiff,F0,r,d,S.ld (b:=s) (o:=2) m0 rfl]
     clear f hl R
     refine cM (fF (n:=7) (a:=a1) S.ok (S.row m2) (P.mo S.fr (by omega)) (by omega) (by omega)) ?_
     rintro v h ⟨f,H,a2,rfl,bl,bm,R⟩
     have hl:=S.leaves (c:=s) m0 f (by omega)
     replace S:=S.call1 (i:=2) rfl f (o':=.row _ _) R
     simp only [LC]at S
     simp only [BS,LB,cls,Nat.reduceLT,Nat.reduceEqDiff,Nat.reduceAdd,Nat.reducePow,Nat.reduceDiv,Nat.reduceMod,Nat.reduceLeDiff]
     refine dw (bW (by exact Tryz.t24.1) (by exact Tryz.e2E) (by decide) (by rfl)) S ?_;clear S;intro h W S J aa;simp only [LC,aV,bJ,ah,Nat.reduceMul,Nat.reduceAdd,zx,zt,zu,zD]at S
     simp only [BS,LB,cls,Nat.reduceLT,Nat.reduceEqDiff,Nat.reduceAdd,Nat.reducePow,Nat.reduceDiv,Nat.reduceMod,Nat.reduceLeDiff]
     refine dn_v (S.grow (j:=1) (m:=1) (new:=ints [(H:Int)]) rfl Tryz.t24.1 Tryz.e2E (by decide) Tryz.t24.2.2.2.2.2 (by simp only [aL];rw [S.lds (b:=W) (o:=0) (n:=1*1) m0 (lbt rfl)];rfl) rfl (by decide) rfl (by rw [cZ,cZ];simp;omega)) ?_
     clear S
     rintro h al S
     simp only [LC]at S
     replace S:=S.drop1
     rw [<-mJ]at S
     have fY:Fl al:=(S.gown _ m1).1.fl
     simp only [BS,LB,cls,Nat.reduceLT,Nat.reduceEqDiff,Nat.reduceAdd,Nat.reducePow,Nat.reduceDiv,Nat.reduceMod,Nat.reduceLeDiff,F0,d]
     refine cU (aC S (i:=0) rfl ?_ ?_ ?_ ono) ?_
     . exact(by simp only [F0])
     . exact(by assumption)
     . exact zq (lbt rfl)
     clear S;rintro h ⟨S,M⟩;clear M;simp only [LC,ah,lay,zo,zp,Nat.reduceAdd]at S
     simp only [BS,LB,Nat.reduceLT,Nat.reduceEqDiff,Nat.reduceAdd,r4]
     refine⟨by simp only [bH,bN,a8,bP,bz,ne_eq,not_false_eq_true,bZ,cv,bV,bG,cy,dl,aQ,Nat.reduceLT,Nat.reduceEqDiff,reduceIte,zL,d,ao,aX hl],?_⟩
     have w:au .i64 ((i:Int)+1)=((i+1:Nat):Int):=by rw [wrap64]<;>omega
     simp only [w]
     exact T (i+1) _ _ (by omega) ⟨by omega,a2,ak,al,_,_,by omega,by simp [lX],by simp [lY],
      fun x F=>(List.mem_append.1 F).elim (cX x) (fun h=>by simp at h;omega),fun x F=>(List.mem_append.1 F).elim (cY x) (fun h=>by simp at h;omega),S,by simp [ab,r,ao],by simp [ab,y,ao],by simp [ab,d,ao],by simp [ab]⟩
   . have bn : i=N:=by omega
     subst bn
     simp only [BS,LB,Nat.reduceLT,Nat.reduceEqDiff,F0,r,d,r4,aI,hlt,S.ld (b:=s) (o:=0) m0 rfl]
     refine step_ret (fF (n:=9) (a:=a) S.ok (S.row m2) (P.mo S.fr (by omega)) (by omega) (by omega)) ?_
     rintro v h ⟨f,H,a1,rfl,bl,bk,R⟩
     replace S:=S.call1 (i:=2) rfl f (o':=.row _ _) R
     simp only [LC]at S
     simp only [BS,LB,Nat.reduceLT,Nat.reduceEqDiff]
     refine sG (fun g h=> ∃(X Y:List Int),X.length=i/\Y.length=i/\(∀x∈X,-2147483648<=x/\x<=2147483647)/\(∀x∈Y,-2147483648<=x/\x<=2147483647)/\
      St (· =B) h0 h [(s,.row [.int .i64 i,D,G,.slice none 0 0] 1),(L,.row [.int .i64 0,.slice none 0 0,.slice none 0 0,.slice none 0 0] 1),(B,.row [V,.int .i64 a1] 1)] [(D,1,ints X),(G,1,ints Y),(.slice none 0 0,3,[])]/\
      g 0=ptrTo B/\g 2=ptrTo L/\g 3=ptrTo s) ?_ ?_ ?_
     . intro _
       obtain⟨bX,ix,an⟩:=S.gset (E:=zj) (t:=2) (j:=0) (i:=0) (kd:=.i64) rfl (by rw [cZ];omega) Tryz.t2.2.2.1
       have bo:kz (some 1) D (.int .i64 0)=_:=ix
       simp only [BS,LB,Nat.reduceLT,Nat.reduceEqDiff,F0,d,bo,S.ld (b:=s) (o:=1) m0 rfl]
       refine aH (an _ bI) ?_
       clear S an;intro h S
       simp only [LC]at S
       obtain⟨bY,iy,ba⟩:=S.gset (E:=zj) (t:=2) (j:=1) (i:=i-1) (kd:=.i64) rfl (by rw [cZ];omega) Tryz.t2.2.2.1
       have w1:au .i64 ((i:Int)-1)=((i-1:Nat):Int):=by rw [wrap64]<;>omega
       simp only [BS,LB,Nat.reduceLT,Nat.reduceEqDiff,F0,d,w1,iy,S.ld (b:=s) (o:=0) m0 rfl,S.ld (b:=s) (o:=2) m0 rfl]
       refine aH (ba _ bI) ?_
       clear S ba;intro h S
       simp only [LC]at S
       simp only [BS]
       have ac: ∀(l:List Int) (j:Nat) (z:Int),(ints l).set j (.int .i64 z)=ints (l.set j z):=by
        intro l
        induction l with
        |nil=>intro j z;rfl
        | cons x l T=>
          intro j z
          cases j with
          |zero=>rfl
          |succ j=>show _::_=_::_;exact congrArg _ (T j z)
       rw [ac,ac]at S
       refine gJ ⟨_,_,by simp [lX],by simp [lY],fun x F=>?_,fun x F=>?_,S,by simp [ab,r,ao],by simp [ab,y,ao],by simp [ab,d,ao]⟩
       . rcases kh F with rfl|⟨j,_,F⟩
         . omega
         . exact cX x (zM F)
       . rcases kh F with rfl|⟨j,_,F⟩
         . omega
         . exact cY x (zM F)
     . intro _
       simp only [BS]
       exact gJ ⟨X,Y,lX,lY,cX,cY,S,by simp [ab,r,ao],by simp [ab,y,ao],by simp [ab,d,ao]⟩
     . clear S r y d r4 lX lY cX cY X Y f R
       rintro g h ⟨X,Y,lX,lY,cX,cY,S,r,y,d⟩
       have w3:au .i64 (3*(i:Int))=((3*i:Nat):Int):=by rw [wrap64]<;>omega
       have w4:au .i64 (((3*i:Nat):Int)+1)=((3*i+1:Nat):Int):=by rw [wrap64]<;>omega
       simp only [BS,LB,Nat.reduceLT,Nat.reduceEqDiff,F0,r,d,w3,w4,S.ld (b:=s) (o:=0) m0 rfl]
       refine step_ret (fF (n:=3*i+1) (a:=a1) S.ok (S.row m2) (P.mo S.fr (by omega)) (by omega) (by omega)) ?_
       rintro v h ⟨f,C,a2,rfl,bp,bm,R⟩
       replace S:=S.call1 (i:=2) rfl f (o':=.row _ _) R
       simp only [LC]at S
       simp only [BS,LB,Nat.reduceLT,Nat.reduceEqDiff,r]
       refine step_ret (fF (n:=3) (a:=a2) S.ok (S.row m2) (P.mo S.fr (by omega)) (by omega) (by omega)) ?_
       rintro v h ⟨f,rr,a3,rfl,b8,ca,R⟩
       replace S:=S.call1 (i:=2) rfl f (o':=.row _ _) R
       simp only [LC]at S
       simp only [BS,LB,Nat.reduceLT,Nat.reduceEqDiff]
       generalize decide ((0:Int)<(rr:Int))=ring
       refine q7 (fun g h=> ∃(a:Nat) (u:Value) (A:List Arc),a<=a3+2*i/\A.length<=i/\(∀x∈A,x.s<i/\x.t<i/\x.w<=2147483647)/\
        St (· =B) h0 h [(s,.row [.int .i64 i,D,G,u] 1),(L,.row [.int .i64 0,.slice none 0 0,.slice none 0 0,.slice none 0 0] 1),(B,.row [V,.int .i64 a] 1)] [(D,1,ints X),(G,1,ints Y),(u,3,A.flatMap cG)]/\
        g 0=ptrTo B/\g 2=ptrTo L/\g 3=ptrTo s/\g 5=.int .i64 C)
        (fun(j:Nat) g h=>j<=i/\ ∃(a:Nat) (u:Value) (A:List Arc),a<=a3+2*j/\A.length<=j/\(∀x∈A,x.s<i/\x.t<i/\x.w<=2147483647)/\
        St (· =B) h0 h [(s,.row [.int .i64 i,D,G,u] 1),(L,.row [.int .i64 0,.slice none 0 0,.slice none 0 0,.slice none 0 0] 1),(B,.row [V,.int .i64 a] 1)] [(D,1,ints X),(G,1,ints Y),(u,3,A.flatMap cG)]/\
        g 0=ptrTo B/\g 2=ptrTo L/\g 3=ptrTo s/\g 5=.int .i64 C/\g 6=.bool ring/\g 7=.int .i64 j) (fun j=>i-j) ?_ ?_ 0 ⟨by omega,a3,_,[],by omega,by simp,by simp,S,by simp [ab,r,ao],by simp [ab,y,ao],by simp [ab,d,ao],by simp [ab],by simp [ab],by simp [ab]⟩
       . clear S r y d f R T
         intro j T g h ⟨hj,a,u,A,ha,lA,O,S,r,y,d,H,r6,r7⟩
         have K:(A.flatMap cG).length=A.length*3:=aU fU A
         by_cases hlt:j<i/\ring=true
         . obtain⟨hlt,I⟩:=hlt
           subst I
           have w1:au .i64 ((j:Int)+1)=((j+1:Nat):Int):=by rw [wrap64]<;>omega
           have ci:(i:Int)≠0:=by omega
           have tm:((j+1:Nat):Int).tmod (i:Int)=(((j+1)%i:Nat):Int):=by rw [zU (by omega)];exact(Int.natCast_emod _ _).symm
           simp only [BS,LB,Nat.reduceLT,Nat.reduceEqDiff,F0,d,r6,r7,aI,hlt,S.ld (b:=s) (o:=0) m0 rfl]
           refine aE (aK rfl) (q:=2048) (ps:=[(6,9),(1,9)]) (by kernel_rfl) ?_
           simp only [BS,LB,cls,Nat.reduceLT,Nat.reduceEqDiff,Nat.reduceAdd,Nat.reducePow,Nat.reduceDiv,Nat.reduceMod,Nat.reduceLeDiff,F0,r,d,r7,w1,ou ci,tm,S.ld (b:=s) (o:=0) m0 rfl,S.ld (b:=s) (o:=3) m0 rfl]
           refine cM (ud (a:=a) S.ok (S.row m2) (P.mo S.fr (by omega)) (by omega)) ?_
           rintro v h ⟨f,U,a4,rfl,Z,bq,R⟩
           have hl:=S.leaves (c:=s) m0 f (by omega)
           replace S:=S.call1 (i:=2) rfl f (o':=.row _ _) R
           simp only [LC]at S
           simp only [BS,LB,cls,Nat.reduceLT,Nat.reduceEqDiff,Nat.reduceAdd,Nat.reducePow,Nat.reduceDiv,Nat.reduceMod,Nat.reduceLeDiff,F0]
           refine dw (bW (by exact Tryz.t29.1) (by exact Tryz.e99E) (by decide) (by rfl)) S ?_;clear S;intro h W S J aa;simp only [LC,aV,bJ,ah,Nat.reduceMul,Nat.reduceAdd,zx,zt,zu,zD]at S
           simp only [BS,LB,cls,Nat.reduceLT,Nat.reduceEqDiff,Nat.reduceAdd,Nat.reducePow,Nat.reduceDiv,Nat.reduceMod,Nat.reduceLeDiff]
           refine dn_v (S.grow (j:=2) (m:=1) (new:=cG ⟨j,(j+1)%i,U⟩) rfl Tryz.t29.1 Tryz.e99E (by decide) Tryz.t29.2.2.2.2.2 (by simp only [aL];rw [S.lds (b:=W) (o:=0) (n:=1*3) m0 (lbt rfl)];rfl) rfl (by decide) rfl (by rw [K,fU];omega)) ?_
           clear S
           rintro h Q S
           simp only [LC]at S
           replace S:=S.drop1
           have fA:Fl Q:=(S.gown _ m2).1.fl
           simp only [BS,LB,cls,Nat.reduceLT,Nat.reduceEqDiff,Nat.reduceAdd,Nat.reducePow,Nat.reduceDiv,Nat.reduceMod,Nat.reduceLeDiff,F0,d]
           refine cU (aC S (i:=0) rfl ?_ ?_ ?_ ono) ?_
           . exact(by simp only [F0])
           . exact(by assumption)
           . exact zq (lbt rfl)
           clear S;rintro h ⟨S,M⟩;clear M;simp only [LC,ah,lay,zo,zp,Nat.reduceAdd]at S
           simp only [BS,LB,Nat.reduceLT,Nat.reduceEqDiff,Nat.reduceAdd,r7]
           refine⟨by simp only [bH,bN,a8,bP,bz,ne_eq,not_false_eq_true,bZ,cv,bV,bG,cy,dl,aQ,Nat.reduceLT,Nat.reduceEqDiff,reduceIte,zL,d,ao,aX hl],?_⟩
           simp only [w1]
           have bb:(j+1)%i<i:=Nat.mod_lt _ (by omega)
           exact T (j+1) _ _ (by omega) ⟨by omega,a4,Q,A++[⟨j,(j+1)%i,U⟩],by omega,by simp;omega,
            fun x F=>(List.mem_append.1 F).elim (O x) (fun h=>by simp at h;subst h;exact⟨hlt,bb,Z⟩),by rw [zG];simpa using S,by simp [ab,r,ao],by simp [ab,y,ao],by simp [ab,d,ao],by simp [ab,H],by simp [ab,r6],by simp [ab]⟩
         . by_cases ad:j<i
           . have I:ring=false:=by cases ring with
              |false=>rfl
              |true=>exact absurd ⟨ad,rfl⟩ hlt
             subst I
             simp only [BS,LB,Nat.reduceLT,Nat.reduceEqDiff,F0,d,r6,r7,aI,ad,S.ld (b:=s) (o:=0) m0 rfl]
             exact gJ ⟨a,u,A,by omega,by omega,O,S,by simp [ab,r,ao],by simp [ab,y,ao],by simp [ab,d,ao],by simp [ab,H]⟩
           . simp only [BS,LB,Nat.reduceLT,Nat.reduceEqDiff,F0,d,r7,aI,ad,S.ld (b:=s) (o:=0) m0 rfl]
             exact gJ ⟨a,u,A,by omega,by omega,O,S,by simp [ab,r,ao],by simp [ab,y,ao],by simp [ab,d,ao],by simp [ab,H]⟩
       . clear S r y d f R T
         rintro g h ⟨a,u,A,ha,lA,O,S,r,y,d,H⟩
         simp only [BS]
         refine q7 (fun g h=> ∃(a:Nat) (u:Value) (A:List Arc),A.length<=100/\(∀x∈A,x.s<i/\x.t<i/\x.w<=2147483647)/\
          St (· =B) h0 h [(s,.row [.int .i64 i,D,G,u] 1),(L,.row [.int .i64 0,.slice none 0 0,.slice none 0 0,.slice none 0 0] 1),(B,.row [V,.int .i64 a] 1)] [(D,1,ints X),(G,1,ints Y),(u,3,A.flatMap cG)]/\
          g 0=ptrTo B/\g 2=ptrTo L/\g 3=ptrTo s)
          (fun(k:Nat) g h=>k<=C/\ ∃(a:Nat) (u:Value) (A:List Arc),a<=a3+2*i+6*k/\A.length<=i+2*k/\(∀x∈A,x.s<i/\x.t<i/\x.w<=2147483647)/\
          St (· =B) h0 h [(s,.row [.int .i64 i,D,G,u] 1),(L,.row [.int .i64 0,.slice none 0 0,.slice none 0 0,.slice none 0 0] 1),(B,.row [V,.int .i64 a] 1)] [(D,1,ints X),(G,1,ints Y),(u,3,A.flatMap cG)]/\
          g 0=ptrTo B/\g 2=ptrTo L/\g 3=ptrTo s/\g 5=.int .i64 C/\g 8=.int .i64 k) (fun k=>C-k) ?_ ?_ 0 ⟨by omega,a,u,A,by omega,by omega,O,S,by simp [ab,r,ao],by simp [ab,y,ao],by simp [ab,d,ao],by simp [ab,H],by simp [ab]⟩
         . clear S r y d H ha lA O a u A
           intro k T g h ⟨hk,a,u,A,ha,lA,O,S,r,y,d,H,r8⟩
           have K:(A.flatMap cG).length=A.length*3:=aU fU A
           by_cases hlt:k<C
           . simp only [BS,LB,Nat.reduceLT,Nat.reduceEqDiff,H,r8,aI,hlt]
             refine aE (nf (ord:=[11,0,1,2,3,4,5,6,7,8,9,10,12]) rfl rfl (by simp only [dv,reix,dT,List.getElem?_cons_zero,List.getElem?_cons_succ,List.map_toArray,List.map_cons,List.map_nil,Nat.reduceBEq,cond_true,cond_false];exact rfl)) (q:=1) (ps:=[(0,10),(0,8),(4,7),(0,4)]) (by kernel_rfl) ?_
             simp only [BS,LB,cls,Nat.reducePow,Nat.reduceDiv,Nat.reduceMod,Nat.reduceLeDiff,F0]
             refine dw aF S ?_;clear S;intro h b9 S b0 bc
             simp only [BS,LB,cls,Nat.reduceLT,Nat.reduceEqDiff,Nat.reduceAdd,Nat.reducePow,Nat.reduceDiv,Nat.reduceMod,Nat.reduceLeDiff,F0,r,d,S.ld (b:=s) (o:=0) m1 rfl]
             refine cM (fF (n:=i) (a:=a) S.ok (S.row m3) (P.mo S.fr (by omega)) (by omega) (by omega)) ?_
             rintro v h ⟨f,s1,a4,rfl,be,bq,R⟩
             have br:=S.leaves (c:=b9) m0 f (by omega)
             have bt:=S.leaves (c:=s) m1 f (by omega)
             replace S:=S.call1 (i:=3) rfl f (o':=.row _ _) R
             simp only [LC]at S
             simp only [BS,LB,cls,Nat.reduceLT,Nat.reduceEqDiff,Nat.reduceAdd,Nat.reducePow,Nat.reduceDiv,Nat.reduceMod,Nat.reduceLeDiff,F0,r,d,S.ld (b:=s) (o:=0) m1 rfl]
             refine cM (fF (n:=i) (a:=a4) S.ok (S.row m3) (P.mo S.fr (by omega)) (by omega) (by omega)) ?_
             rintro v h ⟨f,s2,a5,rfl,bf,cc,R⟩
             have bv:=S.leaves (c:=b9) m0 f (by omega)
             have bx:=S.leaves (c:=s) m1 f (by omega)
             replace S:=S.call1 (i:=3) rfl f (o':=.row _ _) R
             simp only [LC]at S
             simp only [BS,LB,cls,Nat.reduceLT,Nat.reduceEqDiff,Nat.reduceAdd,Nat.reducePow,Nat.reduceDiv,Nat.reduceMod,Nat.reduceLeDiff,r]
             refine cM (ud (a:=a5) S.ok (S.row m3) (P.mo S.fr (by omega)) (by omega)) ?_
             rintro v h ⟨f,U,a6,rfl,Z,cf,R⟩
             have bB:=S.leaves (c:=b9) m0 f (by omega)
             replace S:=S.call1 (i:=3) rfl f (o':=.row _ _) R
             simp only [LC]at S
             simp only [BS,LB,cls,Nat.reduceLT,Nat.reduceEqDiff,Nat.reduceAdd,Nat.reducePow,Nat.reduceDiv,Nat.reduceMod,Nat.reduceLeDiff,F0]
             refine cU (S.store (i:=0) rfl ?_ ?_ rfl rfl ?_ ono) ?_
             . exact(by exact Tryz.t99.2.1)
             . exact(by intro x e;cases e)
             . exact lbt rfl
             clear S;rintro h ⟨S,M⟩;clear M;simp only [LC,ah,lay,zo,zp,Nat.reduceAdd]at S
             simp only [BS,LB,Nat.reduceLT,Nat.reduceEqDiff,Nat.reduceAdd,F0,d]
             refine⟨by simp only [bH,bN,a8,bP,bz,ne_eq,not_false_eq_true,bZ,cv,bV,bG,cy,dl,aQ,Nat.reduceLT,Nat.reduceEqDiff,reduceIte,zL,d,ao,<-bc,aX br,aX bv,aX bx,aX bB,bS bt],?_⟩
             simp only [BS,LB,Nat.reduceLT,Nat.reduceEqDiff,F0,S.ld (b:=s) (o:=3) m1 rfl,S.lds (b:=b9) (o:=0) (n:=3) m0 (lbt rfl)]
             refine am (bW (by exact Tryz.t29.1) (by exact Tryz.e99E) (by decide) (by rfl)) S ?_;clear S;intro h W S J;simp only [LC,aV,bJ,ah,Nat.reduceMul,Nat.reduceAdd,zx,zt,zu,zD]at S
             simp only [BS,LB,Nat.reduceLT,Nat.reduceEqDiff]
             refine dQ (S.grow (j:=2) (m:=1) (new:=cG ⟨s1,s2,U⟩) rfl Tryz.t29.1 Tryz.e99E (by decide) Tryz.t29.2.2.2.2.2 (by simp only [aL];rw [S.lds (b:=W) (o:=0) (n:=1*3) m0 (lbt rfl)];rfl) rfl (by decide) rfl (by rw [K,fU];omega)) ?_
             clear S
             rintro h Q S
             simp only [LC]at S
             replace S:=S.drop1
             have fA:Fl Q:=(S.gown _ m2).1.fl
             simp only [BS,LB,Nat.reduceLT,Nat.reduceEqDiff,F0,d]
             refine aH (aC S (i:=1) rfl ?_ ?_ ?_ ono) ?_
             . exact(by simp only [F0])
             . exact(by assumption)
             . exact zq (lbt rfl)
             clear S;rintro h ⟨S,M⟩;clear M;simp only [LC,ah,lay,zo,zp,Nat.reduceAdd]at S
             simp only [BS,LB,Nat.reduceLT,Nat.reduceEqDiff,r]
             refine step_ret (fF (n:=4) (a:=a6) S.ok (S.row m3) (P.mo S.fr (by omega)) (by omega) (by omega)) ?_
             rintro v h ⟨f,r9,a7,rfl,ch,cj,R⟩
             replace S:=S.call1 (i:=3) rfl f (o':=.row _ _) R
             simp only [LC]at S
             have w8:au .i64 ((k:Int)+1)=((k+1:Nat):Int):=by rw [wrap64]<;>omega
             have af:(A.flatMap cG++cG ⟨s1,s2,U⟩).length=A.length*3+3:=by rw [zH,K,fU]
             have bh: ∀x∈A++[(⟨s1,s2,U⟩:Arc)],x.s<i/\x.t<i/\x.w<=2147483647:=fun x F=>(List.mem_append.1 F).elim (O x) (fun h=>by simp at h;subst h;exact⟨be,bf,Z⟩)
             by_cases hz:(r9:Int)=0
             . simp only [BS,LB,Nat.reduceLT,Nat.reduceEqDiff,Nat.reduceAdd,F0,d,hz,S.ld (b:=s) (o:=3) m1 rfl,S.ld (b:=b9) (o:=0) m0 rfl,S.ld (b:=b9) (o:=1) m0 rfl,S.ld (b:=b9) (o:=2) m0 rfl]
               refine am (bW (by exact Tryz.t29.1) (by exact Tryz.e99E) (by decide) (by rfl)) S ?_;clear S;intro h W S J;simp only [LC,aV,bJ,ah,Nat.reduceMul,Nat.reduceAdd,zx,zt,zu,zD]at S
               simp only [BS,LB,Nat.reduceLT,Nat.reduceEqDiff]
               refine dQ (S.grow (j:=2) (m:=1) (new:=cG ⟨s2,s1,U⟩) rfl Tryz.t29.1 Tryz.e99E (by decide) Tryz.t29.2.2.2.2.2 (by simp only [aL];rw [S.lds (b:=W) (o:=0) (n:=1*3) m0 (lbt rfl)];rfl) rfl (by decide) rfl (by rw [af,fU];omega)) ?_
               clear S
               rintro h bi S
               simp only [LC]at S
               replace S:=S.drop1
               have fA:Fl bi:=(S.gown _ m2).1.fl
               simp only [BS,LB,Nat.reduceLT,Nat.reduceEqDiff,F0,d]
               refine aH (aC S (i:=1) rfl ?_ ?_ ?_ ono) ?_
               . exact(by simp only [F0])
               . exact(by assumption)
               . exact zq (lbt rfl)
               clear S;rintro h ⟨S,M⟩;clear M;simp only [LC,ah,lay,zo,zp,Nat.reduceAdd]at S
               simp only [BS,LB,Nat.reduceLT,Nat.reduceEqDiff,r8,w8]
               replace S:=S.drop1
               exact T (k+1) _ _ (by omega) ⟨by omega,a7,bi,A++[⟨s1,s2,U⟩]++[⟨s2,s1,U⟩],by omega,by simp;omega,
                fun x F=>(List.mem_append.1 F).elim (bh x) (fun h=>by simp at h;subst h;exact⟨bf,be,Z⟩),by rw [zG,zG];simpa using S,by simp [ab,r,ao],by simp [ab,y,ao],by simp [ab,d,ao],by simp [ab,H],by simp [ab]⟩
             . simp only [BS,LB,Nat.reduceLT,Nat.reduceEqDiff,r8,hz,w8]
               replace S:=S.drop1
               exact T (k+1) _ _ (by omega) ⟨by omega,a7,Q,A++[⟨s1,s2,U⟩],by omega,by simp;omega,
                bh,by rw [zG];simpa using S,by simp [ab,r,ao],by simp [ab,y,ao],by simp [ab,d,ao],by simp [ab,H],by simp [ab]⟩
           . simp only [BS,LB,Nat.reduceLT,Nat.reduceEqDiff,H,r8,aI,hlt]
             exact gJ ⟨a,u,A,by omega,O,S,by simp [ab,r,ao],by simp [ab,y,ao],by simp [ab,d,ao]⟩
         . clear S r y d H ha lA O a u A
           rintro g h ⟨a,u,A,lA,O,S,r,y,d⟩
           simp only [BS,LB,Nat.reduceLT,Nat.reduceEqDiff,F0,y,d,S.lds (b:=s) (o:=0) (n:=4) m0 (lbt rfl)]
           have fX:Fl D:=(S.gown _ m0).1.fl
           have fY:Fl G:=(S.gown _ m1).1.fl
           have fA:Fl u:=(S.gown _ m2).1.fl
           refine aH (S.store (i:=1) rfl Tryz.t31.2.1 (by intro x e;cases e) rfl (by simp only [ah,zo,zp,List.all_cons,List.all_nil,fX.2.1,fY.2.1,fA.2.1,zL];rfl) (lbt rfl) ono) ?_
           clear S;rintro h ⟨S,_⟩
           simp only [LC,ah,lay,zo,zp,Nat.reduceAdd]at S
           simp only [BS,ae]
           refine⟨_,tu (by decide) (by simp only [aQ,y,ao,Nat.reduceEqDiff,reduceIte];exact cR Tryz.t31.1 Tryz.t31.2.1 (S.lds (b:=L) (o:=0) (n:=4) m1 (lbt rfl))),?_⟩
           have ai: ∀p∈[(D,1,ints X),(G,1,ints Y),(u,3,A.flatMap cG)],∀c,av p.1 c->h0.n<=c:=by
            intro p hp c hc
            obtain⟨h1,h2⟩:=S.gblk hp hc
            rcases h1 with h1|h1
            . exact h1
            . exact absurd (by simp [h1]) h2
           refine⟨S.fr,⟨i,X,Y,A⟩,D,G,u,rfl,⟨show 1<=i by omega,show i<=12 by omega,lX,lY,cX,cY,lA,O⟩,show i=_ by omega,⟨(S.gown _ m0).1.sl rfl (fun _=>rfl) (by decide),(S.gown _ m1).1.sl rfl (fun _=>rfl) (by decide),(S.gown _ m2).1.sl rfl (fun _=>rfl) (by decide)⟩,?_⟩
           rintro c (hc|hc|hc)
           . exact ai _ m0 c hc
           . exact ai _ m1 c hc
           . exact ai _ m2 c hc
 . exact⟨by omega,a0,_,_,[],[],by omega,rfl,rfl,by simp,by simp,S,by simp [ab,cC,ao],by simp [ab,ao],by simp [ab,ao],by simp [ab]⟩
theorem raw_ok{h0:Hp}(m:h0.t.Sized h0.n){j:Nat}{l:Value}{xs:List Int}(n:Row h0 j [l,.int .i64 ((0:Nat):Int)] 1)(o:lJ h0 j l xs 0):
 Ret zj 9 [ptrTo j] h0 fun v k=>Mo (· =j) h0 k/\ ∃e g h i,v=ik e g h i/\Good e/\cJ k g h i e/\ ∀c,(av g c\/av h c\/av i c)->h0.n<=c:=
 (raw0_ok m n o).mono fun v k ⟨f,e,g,h,i,a,b,_,c,d⟩=>⟨f,e,g,h,i,a,b,c,d⟩
def Tryz.F7:=aj t1<|aj t2<|aj t3<|aj t24<|aj t29<|aj Z0<|Z1
theorem aG{h a:Hp}{b:Nat}(g:Gr h a)(c:b<h.n):leaves h a b=true:=qN (g.get b c)
theorem own_ok{h0:Hp}(T:h0.t.Sized h0.n){u:Gra}(k:Good u){p r l:Value}(G:cJ h0 p r l u):
 Ret zj 46 [ik u p r l] h0 fun v E=>Gr h0 E/\ ∃p r l,v=ik u p r l/\cJ E p r l u/\(∀c,av p c\/av r c\/av l c->h0.n<=c)/\WrK E 3 cG l u.arcs/\ ∀c,av l c-> ¬av p c/\ ¬av r c:=by
 have S:=Si T
 have lX:=k.lX
 have lY:=k.lY
 have n2:=k.n2
 have N:=k.many
 refine ag (n:=16) (rs:=[.cell 2 31]) rfl Tryz.e46 rfl rfl rfl (lbt rfl) ?_
 simp only [BS,Nat.reduceLT,ik]
 refine am (bE (by intro x e;cases e)) S ?_;clear S;intro h b S U;simp only [ah]at S
 simp only [BS,F7]
 refine am aF S ?_;clear S;intro h s S O
 simp only [BS]
 refine aE (aK rfl) (q:=0) (ps:=[(5,7),(2,7),(2,4)]) (by kernel_rfl) ?_
 simp only [BS,LB,cls,Nat.reduceLT,Nat.reduceEqDiff,Nat.reduceAdd,Nat.reducePow,Nat.reduceDiv,Nat.reduceMod,Nat.reduceLeDiff,F7,S.ld (b:=b) (o:=1) m1 rfl]
 refine cM (oD S.ok (G.X.gr S.gr) (by omega)) ?_
 have V:=S.fr.n
 rintro y h ⟨g,f,H⟩
 have P:=aG g ((S.row (b:=b) m1).lt S.ok)
 have I: ∀c,av y c-> ¬c=b:=fun c d e=>by have:=H c d;have:=(S.row (b:=b) m1).lt S.ok;omega
 have J: ∀c,av y c-> ¬c=s:=fun c d e=>by have:=H c d;have:=(S.row (b:=s) m0).lt S.ok;omega
 replace S:=S.call g
 simp only [BS,LB,cls,Nat.reduceLT,Nat.reduceEqDiff,Nat.reduceAdd,Nat.reducePow,Nat.reduceDiv,Nat.reduceMod,Nat.reduceLeDiff,F7,S.ld (b:=b) (o:=2) m1 rfl]
 refine cM (oD S.ok (G.Y.gr S.gr) (by omega)) ?_
 have W:=S.fr.n
 rintro A h ⟨g,j,K⟩
 have Q:=aG g ((S.row (b:=b) m1).lt S.ok)
 have L: ∀c,av A c-> ¬c=b:=fun c d e=>by have:=K c d;have:=(S.row (b:=b) m1).lt S.ok;omega
 have M: ∀c,av A c-> ¬c=s:=fun c d e=>by have:=K c d;have:=(S.row (b:=s) m0).lt S.ok;omega
 replace S:=S.call g
 replace f:=f.gr g
 simp only [BS,LB,cls,Nat.reduceLT,Nat.reduceEqDiff,Nat.reduceAdd,Nat.reducePow,Nat.reduceDiv,Nat.reduceMod,Nat.reduceLeDiff,F7,S.ld (b:=b) (o:=3) m1 rfl]
 refine cM (xU S.ok (G.A.gr S.gr) (by omega)) ?_
 have X:=S.fr.n
 rintro B h ⟨g,m,C,t⟩
 have Y: ∀c,av B c-> ¬av y c/\ ¬av A c:=fun c d=>⟨fun h=>by have:=C c d;have:=f.lt S.ok h;omega,fun h=>by have:=C c d;have:=j.lt S.ok h;omega⟩
 have R:=aG g ((S.row (b:=b) m1).lt S.ok)
 have w: ∀c,av B c-> ¬c=b:=fun c d e=>by have:=C c d;have:=(S.row (b:=b) m1).lt S.ok;omega
 have D: ∀c,av B c-> ¬c=s:=fun c d e=>by have:=C c d;have:=(S.row (b:=s) m0).lt S.ok;omega
 replace S:=S.call g
 replace f:=f.gr g
 replace j:=j.gr g
 have z: ∀c,av y c\/av A c\/av B c->h0.n<=c:=fun c d=>by
  rcases d with h|h|h
  . exact zC V (H c h)
  . exact zC W (K c h)
  . exact zC X (C c h)
 have Z:=f.fl
 have f2:=j.fl
 have f3:=m.fl
 simp only [BS,LB,cls,Nat.reduceLT,Nat.reduceEqDiff,Nat.reduceAdd,Nat.reducePow,Nat.reduceDiv,Nat.reduceMod,Nat.reduceLeDiff,F7]
 refine cU (aC S (i:=1) rfl ?_ ?_ ?_ ono) ?_
 . exact(by simp only [F7])
 . exact(by assumption)
 . exact zq (lbt rfl)
 clear S;rintro h ⟨S,a⟩;replace f:=f.mo a I;replace j:=j.mo a L;replace m:=m.mo a w;replace t:=t.mo a w;clear a;simp only [LC,ah,lay,zo,zp,Nat.reduceAdd]at S
 simp only [BS,LB,cls,Nat.reduceLT,Nat.reduceEqDiff,Nat.reduceAdd,Nat.reducePow,Nat.reduceDiv,Nat.reduceMod,Nat.reduceLeDiff,F7]
 refine cU (aC S (i:=1) rfl ?_ ?_ ?_ ono) ?_
 . exact(by simp only [F7])
 . exact(by assumption)
 . exact zq (lbt rfl)
 clear S;rintro h ⟨S,a⟩;replace f:=f.mo a I;replace j:=j.mo a L;replace m:=m.mo a w;replace t:=t.mo a w;clear a;simp only [LC,ah,lay,zo,zp,Nat.reduceAdd]at S
 simp only [BS,LB,cls,Nat.reduceLT,Nat.reduceEqDiff,Nat.reduceAdd,Nat.reducePow,Nat.reduceDiv,Nat.reduceMod,Nat.reduceLeDiff,F7]
 refine cU (aC S (i:=1) rfl ?_ ?_ ?_ ono) ?_
 . exact(by simp only [F7])
 . exact(by assumption)
 . exact zq (lbt rfl)
 clear S;rintro h ⟨S,a⟩;replace f:=f.mo a I;replace j:=j.mo a L;replace m:=m.mo a w;replace t:=t.mo a w;clear a;simp only [LC,ah,lay,zo,zp,Nat.reduceAdd]at S
 simp only [BS,LB,Nat.reduceLT,Nat.reduceEqDiff,Nat.reduceAdd,F7]
 refine⟨by simp only [bH,bN,a8,bP,bz,ne_eq,not_false_eq_true,bZ,cv,bV,bG,cy,dl,aQ,Nat.reduceLT,Nat.reduceEqDiff,reduceIte,zL,bu,ao,aX P,aX Q,aX R,bS P,bS Q,bS R],?_⟩
 simp only [BS,LB,Nat.reduceLT,Nat.reduceEqDiff,S.lds (b:=b) (o:=0) (n:=4) m1 (lbt rfl)]
 refine aH (S.store (i:=0) rfl Tryz.t31.2.1 (by intro x e;cases e) rfl (by simp only [ah,zo,zp,List.all_cons,List.all_nil,Z.2.1,f2.2.1,f3.2.1,zL];rfl) (lbt rfl) ono) ?_
 clear S
 rintro E ⟨S,F⟩
 simp only [LC,ah,lay,zo,zp,Nat.reduceAdd]at S
 simp only [BS,ae]
 refine⟨_,tu (by decide) (by simp only [aQ,ao,Nat.reduceEqDiff,reduceIte];exact cR Tryz.t31.1 Tryz.t31.2.1 (S.lds (b:=s) (o:=0) (n:=4) m0 (lbt rfl))),?_⟩
 exact⟨S.gr,y,A,B,rfl,⟨f.mo F J,j.mo F M,m.mo F D⟩,z,t.mo F D,Y⟩
end Go.Ab
end
section
namespace Go.Ab
section
variable(A:List Arc)(f:Arc->Nat)
def outs(j v:Nat):List Nat:=(zl j).filter fun i=>decide (f (A.getD i default)=v)
def start:Nat->Nat
 |0=>0
 |v+1=>start v+(outs A f A.length v).length
theorem fL(j v:Nat):outs A f (j+1) v=outs A f j v++(if f (A.getD j default)=v then [j]else []):=by
 unfold outs
 rw [Xd,List.filter_append]
 congr 1
 by_cases h:f (A.getD j default)=v
 . simp only [Xb,List.filter_nil,h,decide_true,if_true]
 . simp only [Xb,List.filter_nil,h,decide_false,if_false,Bool.false_eq_true]
theorem outs_pre{j k:Nat}(h:j<=k)(v:Nat): ∃l,outs A f k v=outs A f j v++l:=by
 induction k with
 | zero => have:j=0:=by omega
           subst this;exact⟨[],by simp⟩
 | succ k a=>
   by_cases b:j=k+1
   . subst b;exact⟨[],by simp⟩
   . obtain⟨l,c⟩:=a (by omega)
     exact⟨l++_,by rw [fL,c,List.append_assoc]⟩
theorem tE{j k:Nat}(h:j<=k)(v:Nat):(outs A f j v).length<=(outs A f k v).length:=by
 obtain⟨l,a⟩:=outs_pre A f h v
 rw [a,zH];omega
theorem start_eq (v:Nat):start A f v=((zl A.length).filter fun i=>decide (f (A.getD i default)<v)).length:=by
 have e: ∀(l:List Nat) (v:Nat),(l.filter fun i=>decide (f (A.getD i default)<v+1)).length=(l.filter fun i=>decide (f (A.getD i default)<v)).length+(l.filter fun i=>decide (f (A.getD i default)=v)).length:=by
  intro l v
  induction l with
  |nil=>rfl
  | cons x l b=>
    simp only [Xb]
    by_cases g:f (A.getD x default)<v
    . have c:f (A.getD x default)<v+1:=by omega
      have d: ¬f (A.getD x default)=v:=by omega
      rw [if_pos (decide_eq_true c),if_pos (decide_eq_true g),if_neg (by rw [decide_eq_true_eq];exact d),zT,zT,b];omega
    . by_cases d:f (A.getD x default)=v
      . have c:f (A.getD x default)<v+1:=by omega
        rw [if_pos (decide_eq_true c),if_neg (by rw [decide_eq_true_eq];exact g),if_pos (decide_eq_true d),zT,zT,b];omega
      . have c: ¬f (A.getD x default)<v+1:=by omega
        rw [if_neg (by rw [decide_eq_true_eq];exact c),if_neg (by rw [decide_eq_true_eq];exact g),if_neg (by rw [decide_eq_true_eq];exact d),b]
 induction v with
 |zero=>rw [start];symm;rw [List.length_eq_zero_iff,List.filter_eq_nil_iff];intro a _;simp only [Nat.not_lt_zero,decide_false,Bool.false_eq_true,not_false_eq_true]
 |succ v b=>rw [start,b,e];rfl
theorem m8(v:Nat):start A f v+(outs A f A.length v).length<=A.length:=by
 have:=start_eq A f (v+1)
 rw [start]at this
 rw [this]
 exact zC (Xg _ _) (by simp)
theorem sY{u v:Nat}(h:u<v):start A f u+(outs A f A.length u).length<=start A f v:=by
 induction v with
 |zero=>omega
 | succ v a=>
   rw [start]
   by_cases b:u=v
   . subst b;exact zV _
   . have:=a (by omega);omega
theorem xD{u v r s:Nat}(b:r<(outs A f A.length u).length)(c:s<(outs A f A.length v).length)(h:start A f u+r=start A f v+s):u=v/\r=s:=by
 rcases Nat.lt_trichotomy u v with a|a|a
 . have:=sY A f a;omega
 . subst a;exact⟨rfl,by omega⟩
 . have:=sY A f a;omega
end
def cI(x:Nat):List Value:=[.int .i64 x]
theorem jo(x:Nat):(cI x).length=1:=rfl
def eF(h:Hp)(m:Nat)(v:Value)(N:Nat)(R:Nat->List Nat):Prop:=
 ∃a b,v=.slice (some ⟨a,0,none⟩) N N/\m<=a/\Row h a b 1/\b.length=N/\ ∀i,i<N-> ∃w,b[i]? =some w/\ax h 1 cI w (R i)/\ ∀c,av w c->m<=c
theorem eF.mo{M:Nat->Prop}{h e:Hp}{v:Value}{m N:Nat}{R:Nat->List Nat}(r:eF h m v N R)(g:Mo M h e)(f: ∀b,M b->b<m):eF e m v N R:=by
 obtain⟨k,j,l,u,n,p,q⟩:=r
 refine⟨k,j,l,by omega,g.has (o:=.row j 1) n (fun h=>by have:=f _ h;omega),p,fun i s=>?_⟩
 obtain⟨w,a,b,c⟩:=q i s
 exact⟨w,a,b.mo g fun x d t=>by have:=f _ t;have:=c x d;omega,fun x d=>by have:=c x d;omega⟩
theorem eF.gr{h a:Hp}{v:Value}{m N:Nat}{R:Nat->List Nat}(g:Gr h a)(r:eF h m v N R):eF a m v N R:=
 r.mo (M:=NoM) g.fr (fun _ h=>h.elim)
theorem eF.low{h:Hp}{v:Value}{m d N:Nat}{R:Nat->List Nat}(r:eF h m v N R)(p:d<=m):eF h d v N R:=by
 obtain⟨e,f,g,q,j,k,l⟩:=r
 exact⟨e,f,g,by omega,j,k,fun i n=>by
  obtain⟨w,a,b,c⟩:=l i n
  exact⟨w,a,b,fun x o=>by have:=c x o;omega⟩⟩
structure cE(h:Hp)(m:Nat)(p:Value)(γ:Gra):Prop where
 ex: ∃b vx vy va vo vi,p=ptrTo b/\Row h b [.int .i64 γ.nodes,vx,vy,va,vo,vi] 1/\cJ h vx vy va γ/\eF h m vo γ.nodes (outs γ.arcs Arc.s γ.arcs.length)/\eF h m vi γ.nodes (outs γ.arcs Arc.t γ.arcs.length)/\m<=b/\ ∀c,av vx c\/av vy c\/av va c->m<=c
theorem cJ.mo{M:Nat->Prop}{h i:Hp}{b d e:Value}{j:Gra}(a:cJ h b d e j)(g:Mo M h i)(f: ∀c,av b c\/av d c\/av e c-> ¬M c):cJ i b d e j:=
 ⟨a.X.mo g fun c h=>f c (.inl h),a.Y.mo g fun c h=>f c (.inr (.inl h)),a.A.mo g fun c h=>f c (.inr (.inr h))⟩
theorem cE.mo{M:Nat->Prop}{h d:Hp}{m:Nat}{p:Value}{e:Gra}(n:cE h m p e)(g:Mo M h d)(a: ∀b,M b->b<m):cE d m p e:=by
 obtain⟨b,i,j,k,l,q,r,s,t,u,v,w,f⟩:=n.ex
 exact⟨b,i,j,k,l,q,r,g.has (o:=.row _ 1) s (fun h=>by have:=a _ h;omega),t.mo g (fun c x y=>by have:=a _ y;have:=f c x;omega),u.mo g a,v.mo g a,w,f⟩
theorem cE.gr{h a:Hp}{m:Nat}{p:Value}{b:Gra}(n:cE h m p b)(g:Gr h a):cE a m p b:=n.mo (M:=NoM) g.fr (fun _ h=>h.elim)
theorem kI{α:Type}{N k:Nat}{F F':Nat->α}(b: ∀i,i<N->i≠k->F' i=F i):((zl N).map F).set k (F' k)=(zl N).map F':=by
 refine zN fun i=>?_
 rw [zF]
 by_cases a:i<N
 . by_cases e:k=i
   . subst e;simp [a]
   . rw [if_neg e];simp [a,b i a (Ne.symm e)]
 . by_cases e:k=i
   . subst e;simp [a]
   . rw [if_neg e];simp [a]
theorem js{α:Type}{N k:Nat}{F:Nat->α}(a:k<N):((zl N).map F)[k]? =some (F k):=by simp [a]
end Go.Ab

end
section
namespace Go.Ab
open Go.Proofs
set_option maxRecDepth 10000
def Tryz.F0q:=aj t1<|aj t2<|aj t3<|Z1
def Tryz.F0r:=aj t1<|aj t2<|aj t3<|Z1
def Tryz.F5:=aj t1<|aj t2<|aj t3<|aj t4<|aj t5<|aj t6<|aj Z2<|aj Z5<|aj t9<|aj t10<|aj t11<|aj t12<|aj Z12<|aj t14<|aj r14<|aj t15<|aj t16<|aj t17<|aj t18<|aj r18<|aj t19<|aj r19<|aj t20<|aj t24<|aj t29<|aj Z0<|aj t33<|aj Z1<|aj t181<|aj t189<|aj t192<|aj t271<|aj t358<|aj Z14<|aj t372<|aj t374<|aj t376<|aj t377<|aj t378<|aj t379<|Z17
theorem slice_at{E:Env}{t e:TypeId}{b k len cap l m:Nat}{a c d:IntKind}(i:E.und t=some (.slice e))(j:E.sz e=some k)(f:l<=m)(o:m<=cap):
 d8 E t (.slice (some ⟨b,0,none⟩) len cap) (some (.int a (l:Int))) (some (.int c (l:Int))) (some (.int d (m:Int)))=some (.slice (some ⟨b,if m=l then 0 else l*k,none⟩) 0 (m-l)):=by
 have g: ∀n:Nat,fo (n:Int)=some n:=fun n=>rfl
 simp only [d8,i,dV,dU,g,zQ o,zQ f,zQ (zV l),cond_true,j,Nat.sub_self,Option.map]
 by_cases h:m=l
 . subst h;rw [Nat.beq_refl];simp
 . have:Nat.beq m l=false:=by
    cases p:Nat.beq m l with
    |false=>rfl
    |true=>exact absurd (Nat.eq_of_beq_eq_true p) h
   rw [this,if_neg h];simp [dW]
theorem St.fill{M:Nat->Prop}{h0 h:Hp}{L:List (Nat×Ob)}{G:List GL}(S:St M h0 h L G){E:Env}{t m e:TypeId}{d i b off len cap md:Nat}{r l:List Value}{s:Option Nat}{x v:Value}(n:L[i]? =some (b,.row l md))(u:E.und t=some (.slice e))(w:dD E e d 1 r)
 (z:dh E m=some false) (a:aL h 1 x=some (1,[v])) (A:Fl v) (H:len<cap) (B:off+len<l.length) (f:md≠0) {ts:List TypeId}:
 ∃g,cV E h (t::m::ts) (.slice (some ⟨b,off,s⟩) len cap) x=some (g,.slice (some ⟨b,off,s⟩) (len+1) cap)/\St M h0 g (L.set i (b,.row (l.set (off+len) v) md)) G/\Mo (· =b) h g:=by
 obtain⟨⟨I,k,rfl,c⟩,J,C⟩:=w
 have D:=S.row (zM n)
 obtain⟨y,F,p⟩:=D.store S.ok f (o:=off+len) (vs:=[v]) (by simp;omega) (by simp [A.2.1])
 have e:lay l (off+len) [v]=l.set (off+len) v:=by
  refine zN fun j=>?_
  rw [ic (by simp;omega),zF]
  simp only [zT,List.length_nil]
  by_cases q:off+len=j
  . subst q;rw [if_pos ⟨zV _,by omega⟩,if_pos rfl,if_pos B];simp
  . rw [if_neg (by omega),if_neg q]
 rw [e]at p
 refine⟨h.put b y,?_,S.put n p,(Mo.refl (M:=(· =b)) S.ok).put (.inr rfl) y⟩
 simp only [cV,z,iR,u,k,c,a]
 unfold d9
 rw [zQ (by omega:len+1<=cap)]
 simp only [cond_true,c,zu,F]
theorem uu{ρ:Operand->Value}{f:Operand}{xs:Array Operand}{ts:Array TypeId}{h a:Hp}:bM ρ true (.call ⟨.value f,xs,ts⟩) h a=none:=rfl
theorem mX{i:Nat}:bR i []=none:=rfl
theorem pair_n{x:Option Tch}:iY none x=true:=rfl
def KeyF(E:Env)(g:FuncId)(f:Arc->Nat):Prop:= ∀(h:Hp) (a:Arc),h.t.Sized h.n->aW E g [.agg ⟨cG a⟩] h (.int .i64 (f a))
theorem of2_key:KeyF zj 103 Arc.s:=by
 intro f a c
 have S:=Si c
 refine ag (n:=5) (rs:=[.tmp 2]) rfl Tryz.e103 rfl rfl rfl (lbt rfl) ?_
 simp only [BS,Nat.reduceLT,cG]
 refine am (bE (by intro x e;cases e)) S ?_;clear S;intro h b S d;simp only [ah]at S
 simp only [BS,LB,ae,Nat.reduceLT,Nat.reduceEqDiff,F0q,S.ld (b:=b) (o:=0) m0 rfl]
 exact S.gr
theorem of3_key:KeyF zj 104 Arc.t:=by
 intro f a c
 have S:=Si c
 refine ag (n:=5) (rs:=[.tmp 2]) rfl Tryz.e104 rfl rfl rfl (lbt rfl) ?_
 simp only [BS,Nat.reduceLT,cG]
 refine am (bE (by intro x e;cases e)) S ?_;clear S;intro h b S d;simp only [ah]at S
 simp only [BS,LB,ae,Nat.reduceLT,Nat.reduceEqDiff,F0r,S.ld (b:=b) (o:=1) m0 rfl]
 exact S.gr
theorem oO(A:List Arc)(f:Arc->Nat)(j v:Nat):(outs A f j v).length<=j:=by
 unfold outs
 exact zC (Xg _ _) (by simp)
theorem nI(z:Value)(N:Nat):aV [z] ((N:Int)).toNat=(zl N).map fun _=>z:=by
 rw [zY]
 have: ∀n,aV [z] n=List.replicate n z:=by
  intro n
  induction n with
  |zero=>rfl
  |succ n a=>simp [aV,a,List.replicate_succ]
 rw [this,zX,List.length_range]
def kj(A:List Arc)(f:Arc->Nat)(i v:Nat):Value:=.int .i64 ((outs A f i v).length:Nat)
def ff(A:List Arc)(f:Arc->Nat)(b v n:Nat):Value:=.slice (some ⟨b,if(outs A f A.length v).length=0 then 0 else start A f v,none⟩) n (outs A f A.length v).length
theorem cnt_set{A:List Arc}{f:Arc->Nat}{N i:Nat}(c:i<A.length):((zl N).map (kj A f i)).set (f A[i]) (.int .i64 (((outs A f i (f A[i])).length+1:Nat):Int))=(zl N).map (kj A f (i+1)):=by
 have b:A.getD i default=A[i]:=by simp [zk,c]
 have e:(.int .i64 (((outs A f i (f A[i])).length+1:Nat):Int):Value)=kj A f (i+1) (f A[i]):=by
  unfold kj;rw [fL,b,if_pos rfl,zH];rfl
 rw [e]
 refine kI fun v d a=>?_
 unfold kj
 rw [fL,b,if_neg (fun e=>a e.symm),z7]
def sS(A:List Arc)(f:Arc->Nat)(N i:Nat)(cs:List Value):Prop:=
 cs.length=A.length/\ ∀v r x,v<N->(outs A f i v)[r]? =some x->cs[start A f v+r]? =some (.int .i64 (x:Nat))
theorem fill_zero{A:List Arc}{f:Arc->Nat}{N:Nat}:sS A f N 0 ((zl A.length).map fun _=>.int .i64 0):=
 ⟨by simp,fun v r x _ h=>by simp [outs]at h⟩
theorem fill_step{A:List Arc}{f:Arc->Nat}{N i:Nat}{cs:List Value}(h:sS A f N i cs)(k:i<A.length):sS A f N (i+1) (cs.set (start A f (f A[i])+(outs A f i (f A[i])).length) (.int .i64 (i:Nat))):=by
 have c:A.getD i default=A[i]:=by simp [zk,k]
 have g:(outs A f (i+1) (f A[i])).length<=(outs A f A.length (f A[i])).length:=tE A f (by omega) _
 rw [fL,c,if_pos rfl,zH]at g
 have hlt:(outs A f i (f A[i])).length<(outs A f A.length (f A[i])).length:=by simp at g;omega
 have l:=m8 A f (f A[i])
 refine⟨by rw [z8];exact h.1,fun v r x m a=>?_⟩
 have n:r<(outs A f (i+1) v).length:=(List.getElem?_eq_some_iff.1 a).1
 have d:r<(outs A f A.length v).length:=Nat.lt_of_lt_of_le n (tE A f (by omega) v)
 rw [zF]
 by_cases e:start A f (f A[i])+(outs A f i (f A[i])).length=start A f v+r
 . obtain⟨b,o⟩:=xD A f hlt d e
   subst b
   rw [if_pos e,if_pos (by rw [h.1];omega)]
   rw [fL,c,if_pos rfl,Xj,if_neg (by omega),o,Nat.sub_self]at a
   simp at a
   rw [a]
 . rw [if_neg e]
   refine h.2 v r x m ?_
   rw [fL,c]at a
   by_cases b:f A[i]=v
   . rw [if_pos b,Xj]at a
     subst b
     by_cases j:r<(outs A f i (f A[i])).length
     . rw [if_pos j]at a;exact a
     . rw [if_neg j]at a
       have:=(List.getElem?_eq_some_iff.1 a).1
       simp at this
       exact absurd (by omega) e
   . rw [if_neg b,z7]at a;exact a
theorem of1_ok {h0:Hp} (ok:h0.t.Sized h0.n) {u:Gra} (J:Good u) {vx vy K:Value} {b:Nat} (hb:Row h0 b [.int .i64 u.nodes,vx,vy,K] 1) (ga:cJ h0 vx vy K u) {g:FuncId} {f:Arc->Nat} (hk:KeyF zj g f) (hf: ∀a∈u.arcs,f a<u.nodes):
 Ret zj 102 [.func (.func g) #[] #[],ptrTo b] h0 fun v W=>Gr h0 W/\eF W h0.n v u.nodes (outs u.arcs f u.arcs.length):=by
 have S:=Si ok
 have n2:=J.n2
 have L:=J.many
 obtain⟨N,X,Y,A⟩:=u
 simp only []at hb n2 L hf
 have M:ax h0 3 cG K A:=ga.A
 have l0:=hb.load1 (o:=0) rfl
 have l3:=hb.load1 (o:=3) rfl
 refine ag (n:=85) (rs:=[.tmp 3]) rfl Tryz.e102 rfl rfl rfl (lbt rfl) ?_
 simp only [BS,LB,Nat.reduceLT,Nat.reduceEqDiff,F5,l0]
 refine am (nZ (by exact Tryz.t33.1) (by exact Tryz.e3E) (by omega) (by omega)) S ?_;clear S;intro h B S ai
 rw [nI]at S
 replace S:St NoM h0 h [(B,.row ((zl N).map (kj A f 0)) 1)] []:=S
 simp only [BS,LB,Nat.reduceLT,Nat.reduceEqDiff,F5,S.old l3 (fun h=>h),M.lenq,zY]
 refine bg (fun(i:Nat) m h=>i<=A.length/\St NoM h0 h [(B,.row ((zl N).map (kj A f i)) 1)] []/\m 0=.func (.func g) #[] #[]/\m 1=ptrTo b/\m 4=.slice (some ⟨B,0,none⟩) N N/\m 18=K/\m 19=.int .i64 A.length/\m 20=.int .i64 i) (fun i=>A.length-i) ?_ 0 _ _ ?_
 . clear S
   intro i O m h ⟨hi,S,r0,r1,r4,r18,r19,r20⟩
   by_cases hlt:i<A.length
   . obtain⟨c,o,t,C⟩:=(M.gr S.gr).ix (kd:=.i64) fU hlt
     have p:f A[i]<N:=hf _ (zR hlt)
     have a2:=oO A f i (f A[i])
     have w:au .i64 ((i:Int)+1)=((i+1:Nat):Int):=by rw [wrap64]<;>omega
     have Z:au .i64 (((outs A f i (f A[i])).length:Int)+1)=(((outs A f i (f A[i])).length+1:Nat):Int):=by rw [wrap64]<;>omega
     simp only [BS,LB,Nat.reduceLT,Nat.reduceEqDiff,F5,r18,r19,r20,aI,hlt,t,C]
     refine am aF S ?_;clear S;intro h b6 S ak
     simp only [BS,LB,Nat.reduceLT,Nat.reduceEqDiff,cG]
     refine aH (S.store (i:=0) rfl ?_ ?_ rfl rfl ?_ ono) ?_
     . exact(by exact Tryz.t99.2.1)
     . exact(by intro x e;cases e)
     . exact lbt rfl
     clear S;rintro h ⟨S,y⟩;clear y;simp only [LC,ah,lay,zo,zp,Nat.reduceAdd]at S
     simp only [BS,LB,Nat.reduceLT,Nat.reduceEqDiff,F5,r0,r4,S.lds (b:=b6) (o:=0) (n:=3) m0 (lbt rfl)]
     refine ar (hk _ A[i] S.ok) ?_;intro h g;replace S:=S.call g;clear g
     have D:=S.ld (b:=B) (o:=f A[i]) m1 (js (F:=kj A f i) p)
     unfold kj at D
     simp only [BS,LB,Nat.reduceLT,Nat.reduceEqDiff,F5,p,D,Z]
     refine aH (aC S (i:=1) rfl Tryz.t3.2.2.1 bI (by simpa using p) ono) ?_
     clear S D;rintro h ⟨S,y⟩;clear y
     simp only [LC]at S
     rw [cnt_set hlt]at S
     replace S:=S.drop1
     simp only [BS,LB,Nat.reduceLT,Nat.reduceEqDiff,r20,w]
     exact O (i+1) _ _ (by omega) ⟨by omega,S,by simp [ab,r0],by simp [ab,r1,ao],by simp [ab,r4],by simp [ab,r18],by simp [ab,r19],by simp [ab]⟩
   . have E : i=A.length:=by omega
     subst E
     simp only [BS,LB,Nat.reduceLT,r19,r20,aI,hlt]
     refine aE (aK rfl) (q:=72) (ps:=[]) (by kernel_rfl) ?_
     simp only [BS,LB,cls,Nat.reduceLT,Nat.reduceEqDiff,Nat.reduceAdd,Nat.reducePow,Nat.reduceDiv,Nat.reduceMod,Nat.reduceLeDiff,F5,r1,S.old l3 (fun h=>h),M.lenq]
     refine dw (nZ (by exact Tryz.t33.1) (by exact Tryz.e3E) (by omega) (by omega)) S ?_;clear S;intro h d S Q al
     rw [nI]at S
     simp only [BS,LB,cls,Nat.reduceLT,Nat.reduceEqDiff,Nat.reduceAdd,Nat.reducePow,Nat.reduceDiv,Nat.reduceMod,Nat.reduceLeDiff,F5,r1,S.old l0 (fun h=>h),zY]
     refine dw (nZ (by exact Tryz.t189.1) (by exact Tryz.e33E) (by omega) (by omega)) S ?_;clear S;intro h H S R an
     rw [nI]at S
     simp only [BS,LB,cls,Nat.reduceLT,Nat.reduceEqDiff,Nat.reduceAdd,Nat.reducePow,Nat.reduceDiv,Nat.reduceMod,Nat.reduceLeDiff,F5,r4,zY]
     have e0:(zl N).map (fun v=>if v<0 then ff A f d v 0 else .slice none 0 0)=(zl N).map (fun _=>(.slice none 0 0:Value)):=by simp
     rw [<-e0]at S
     refine bg (fun(j:Nat) m h=>j<=N/\St NoM h0 h [(H,.row ((zl N).map fun v=>if v<j then ff A f d v 0 else .slice none 0 0) 1),(d,.row ((zl A.length).map fun _=>.int .i64 0) 1),(B,.row ((zl N).map (kj A f A.length)) 1)] []/\
      m 0=.func (.func g) #[] #[]/\m 1=ptrTo b/\m 7=.slice (some ⟨d,0,none⟩) A.length A.length/\m 8=.slice (some ⟨H,0,none⟩) N N/\m 9=.int .i64 (start A f j)/\m 40=.slice (some ⟨B,0,none⟩) N N/\m 41=.int .i64 N/\m 42=.int .i64 j) (fun j=>N-j) ?_ 0 _ _ ?_
     . clear S r0 r1 r4 r18 r19 r20
       intro j O m h ⟨hj,S,r0,r1,r7,r8,r9,r40,r41,r42⟩
       by_cases z:j<N
       . have D:=S.ld (b:=B) (o:=j) m2 (js (F:=kj A f A.length) z)
         unfold kj at D
         have aa:=m8 A f j
         have w:au .i64 ((j:Int)+1)=((j+1:Nat):Int):=by rw [wrap64]<;>omega
         have Z:au .i64 ((start A f j:Int)+((outs A f A.length j).length:Nat))=((start A f j+(outs A f A.length j).length:Nat):Int):=by rw [wrap64]<;>omega
         have sl:d8 zj 33 (.slice (some ⟨d,0,none⟩) A.length A.length) (some (.int .i64 (start A f j))) (some (.int .i64 (start A f j))) (some (.int .i64 ((start A f j+(outs A f A.length j).length:Nat):Int)))=some (ff A f d j 0):=by
          rw [slice_at Tryz.t33.1 Tryz.t3.2.2.1 (by omega) (by omega)]
          unfold ff
          rw [Nat.add_sub_cancel_left,zu]
          by_cases G:(outs A f A.length j).length=0
          . rw [if_pos (by omega),if_pos G]
          . rw [if_neg (by omega),if_neg G]
         have fr:Fl (ff A f d j 0):=bD
         simp only [BS,LB,Nat.reduceLT,Nat.reduceEqDiff,Option.map_some,F5,r7,r8,r9,r40,r41,r42,aI,z,D,Z,sl]
         refine aH (aC S (i:=0) rfl Tryz.t33.2.2.1 fr (by simpa using z) ono) ?_
         clear S D;rintro h ⟨S,y⟩;clear y
         simp only [LC]at S
         rw [show((zl N).map fun v=>if v<j then ff A f d v 0 else .slice none 0 0).set j (ff A f d j 0)=(zl N).map fun v=>if v<j+1 then ff A f d v 0 else .slice none 0 0 from by
          have:=kI (N:=N) (k:=j) (F:=fun v=>if v<j then ff A f d v 0 else .slice none 0 0) (F':=fun v=>if v<j+1 then ff A f d v 0 else .slice none 0 0) (fun v I T=>by
           show ite _ _ _=ite _ _ _
           by_cases h1:v<j
           . rw [if_pos h1,if_pos (by omega)]
           . rw [if_neg h1,if_neg (by omega)])
          simp only [if_pos (show j<j+1 by omega)]at this
          exact this]at S
         simp only [BS,LB,Nat.reduceLT,Nat.reduceEqDiff,r9,r42,w,Z]
         exact O (j+1) _ _ (by omega) ⟨by omega,S,by simp [ab,r0],by simp [ab,r1,ao],by simp [ab,r7],by simp [ab,r8],by simp [ab,start],by simp [ab,r40],by simp [ab,r41],by simp [ab]⟩
       . have ac:j=N:=by omega
         subst ac
         simp only [BS,LB,Nat.reduceLT,Nat.reduceEqDiff,F5,r1,r41,r42,aI,z,S.old l3 (fun h=>h),M.lenq]
         have e1:((zl j).map fun v=>if v<j then ff A f d v 0 else .slice none 0 0)=(zl j).map fun v=>ff A f d v (outs A f 0 v).length:=by
          refine List.map_congr_left fun v I=>?_
          rw [if_pos (List.mem_range.1 I)];rfl
         rw [e1]at S
         refine bg (fun(i:Nat) m h=>i<=A.length/\(∃cs,sS A f j i cs/\St NoM h0 h [(H,.row ((zl j).map fun v=>ff A f d v (outs A f i v).length) 1),(d,.row cs 1),(B,.row ((zl j).map (kj A f A.length)) 1)] [])/\
          m 0=.func (.func g) #[] #[]/\m 1=ptrTo b/\m 8=.slice (some ⟨H,0,none⟩) j j/\m 62=K/\m 63=.int .i64 A.length/\m 64=.int .i64 i) (fun i=>A.length-i) ?_ 0 _ _ ?_
         . clear S r0 r1 r7 r8 r9 r40 r41 r42
           intro i O m h ⟨hi,⟨cs,hcs,S⟩,r0,r1,r8,r62,r63,r64⟩
           by_cases hlt:i<A.length
           . obtain⟨c,o,t,C⟩:=(M.gr S.gr).ix (kd:=.i64) fU hlt
             have p:f A[i]<j:=hf _ (zR hlt)
             have w:au .i64 ((i:Int)+1)=((i+1:Nat):Int):=by rw [wrap64]<;>omega
             simp only [BS,LB,Nat.reduceLT,Nat.reduceEqDiff,F5,r62,r63,r64,aI,hlt,t,C]
             refine am aF S ?_;clear S;intro h U S ad
             simp only [BS,LB,Nat.reduceLT,Nat.reduceEqDiff,cG]
             refine aH (S.store (i:=0) rfl ?_ ?_ rfl rfl ?_ ono) ?_
             . exact(by exact Tryz.t99.2.1)
             . exact(by intro x e;cases e)
             . exact lbt rfl
             clear S;rintro h ⟨S,y⟩;clear y;simp only [LC,ah,lay,zo,zp,Nat.reduceAdd]at S
             simp only [BS]
             refine aE (aK rfl) (q:=2184) (ps:=[(3,6)]) (by kernel_rfl) ?_
             simp only [BS,LB,cls,Nat.reduceLT,Nat.reduceEqDiff,Nat.reduceAdd,Nat.reducePow,Nat.reduceDiv,Nat.reduceMod,Nat.reduceLeDiff,F5,r0,r8,S.lds (b:=U) (o:=0) (n:=3) m0 (lbt rfl)]
             refine nK (hk _ A[i] S.ok) ?_
             intro h V;replace S:=S.call V;clear V
             simp only [BS,LB,cls,Nat.reduceLT,Nat.reduceEqDiff,Nat.reduceAdd,Nat.reducePow,Nat.reduceDiv,Nat.reduceMod,Nat.reduceLeDiff,F5,r0,r8,S.lds (b:=U) (o:=0) (n:=3) m0 (lbt rfl)]
             refine nK (hk _ A[i] S.ok) ?_
             intro h V;replace S:=S.call V;clear V
             have hd:A.getD i default=A[i]:=by simp [zk,hlt]
             have hl:(outs A f (i+1) (f A[i])).length<=(outs A f A.length (f A[i])).length:=tE A f (by omega) _
             rw [fL,hd,if_pos rfl,zH,Xh]at hl
             have aa:=m8 A f (f A[i])
             have hK:(outs A f A.length (f A[i])).length≠0:=by omega
             have lr:=S.ld (b:=H) (o:=f A[i]) m1 (js (F:=fun v=>ff A f d v (outs A f i v).length) p)
             simp only [ff,if_neg hK]at lr
             simp only [BS,LB,cls,Nat.reduceLT,Nat.reduceEqDiff,Nat.reduceAdd,Nat.reducePow,Nat.reduceDiv,Nat.reduceMod,Nat.reduceLeDiff,F5,p,lr]
             refine dw (bW (by exact Tryz.t33.1) (by exact Tryz.e3E) (by decide) (by rfl)) S ?_;clear S;intro h bs S a0 a1;simp only [LC,aV,bJ,ah,Nat.reduceMul,Nat.reduceAdd,zx,zt,zu,zD]at S
             simp only [BS,LB,cls,Nat.reduceLT,Nat.reduceEqDiff,Nat.reduceAdd,Nat.reducePow,Nat.reduceDiv,Nat.reduceMod,Nat.reduceLeDiff]
             obtain⟨h2,e2,S2,af⟩:=S.fill (i:=3) (x:=.slice (some ⟨bs,0,none⟩) 1 1) (v:=.int .i64 (i:Nat)) (off:=start A f (f A[i])) (len:=(outs A f i (f A[i])).length) (cap:=(outs A f A.length (f A[i])).length) (s:=none) rfl Tryz.t33.1 Tryz.e3E Tryz.t33.2.2.2.2.2
              (by simp only [aL];rw [S.lds (b:=bs) (o:=0) (n:=1*1) m0 (lbt rfl)];rfl) bI (by omega) (by have:=hcs.1;omega) ono (ts:=[])
             refine dn_v (P:=fun W v=>W=h2/\v=.slice (some ⟨d,start A f (f A[i]),none⟩) ((outs A f i (f A[i])).length+1) (outs A f A.length (f A[i])).length) ⟨_,_,e2,rfl,rfl⟩ ?_
             rintro h v ⟨rfl,rfl⟩
             clear S e2 af;have S:=S2;clear S2
             simp only [LC]at S
             simp only [BS,LB,cls,Nat.reduceLT,Nat.reduceEqDiff,Nat.reduceAdd,Nat.reducePow,Nat.reduceDiv,Nat.reduceMod,Nat.reduceLeDiff,F5,p]
             refine cU (aC S (i:=2) rfl Tryz.t33.2.2.1 bD (by simpa using p) ono) ?_
             clear S;rintro h ⟨S,y⟩;clear y
             simp only [LC]at S
             have e3:((zl j).map fun v=>ff A f d v (outs A f i v).length).set (f A[i]) (.slice (some ⟨d,start A f (f A[i]),none⟩) ((outs A f i (f A[i])).length+1) (outs A f A.length (f A[i])).length)=(zl j).map fun v=>ff A f d v (outs A f (i+1) v).length:=by
              have:=kI (N:=j) (k:=f A[i]) (F:=fun v=>ff A f d v (outs A f i v).length) (F':=fun v=>ff A f d v (outs A f (i+1) v).length) (fun v I T=>by
               show ff _ _ _ _ _=ff _ _ _ _ _
               rw [fL,hd,if_neg (fun e=>T e.symm),z7])
              rw [<-this]
              congr 1
              show _=ff _ _ _ _ _
              rw [fL,hd,if_pos rfl,zH]
              unfold ff
              rw [if_neg hK];rfl
             rw [e3]at S
             replace S:=S.drop1.drop1
             simp only [BS,LB,Nat.reduceLT,Nat.reduceEqDiff,Nat.reduceAdd,r64,w]
             refine⟨by simp only [bH,bN,a8,bP,bz,ne_eq,not_false_eq_true,bZ,cv,bV,bG,cy,dl,aQ,Nat.reduceLT,Nat.reduceEqDiff,reduceIte,zL,r0,r1,r8,ao,uu,jx,mX,pair_n],?_⟩
             exact O (i+1) _ _ (by omega) ⟨by omega,⟨_,fill_step hcs hlt,S⟩,by simp [ab,r0],by simp [ab,r1,ao],by simp [ab,r8],by simp [ab,r62],by simp [ab,r63],by simp [ab]⟩
           . have E:i=A.length:=by omega
             subst E
             simp only [BS,LB,ae,Nat.reduceLT,Nat.reduceEqDiff,r8,r63,r64,aI,hlt]
             refine⟨S.gr,H,_,rfl,R,S.row m0,by simp,fun v I=>⟨_,js I,.inr ⟨d,_,none,_,rfl,zV _,?_⟩,fun c (hc:d=c)=>hc▸Q⟩⟩
             have hR:=S.row (b:=d) (l:=cs) (md:=1) m1
             have ht:=m8 A f v
             have hl:=hcs.1
             rw [zu]
             by_cases G:(outs A f A.length v).length=0
             . rw [if_pos G,G,hR.load (by omega)]
               rw [List.length_eq_zero_iff.1 G];rfl
             . rw [if_neg G,hR.load (by omega)]
               congr 1
               refine zN fun r=>?_
               have e4:(outs A f A.length v).flatMap cI=(outs A f A.length v).map fun x=>.int .i64 (x:Nat):=by
                rw [Xi,List.map_eq_flatMap,Xi];rfl
               rw [e4,zJ,List.getElem?_take,List.getElem?_drop]
               by_cases hr:r<(outs A f A.length v).length
               . rw [if_pos hr,hcs.2 v r _ I (zI hr),zI hr];rfl
               . rw [if_neg hr,zZ (by omega)];rfl
         . exact⟨Xl _,⟨_,fill_zero,S⟩,by simp [ab,r0],by simp [ab,r1,ao],by simp [ab,r8],by simp [ab],by simp [ab],by simp [ab]⟩
     . exact⟨Xl _,S,by simp [ab,r0],by simp [ab,r1,ao],by simp [ab],by simp [ab],by simp [ab,start],by simp [ab,r4],by simp [ab],by simp [ab]⟩
 . exact⟨Xl _,S,by simp [ab,bu],by simp [ab,bu,dF,ao],by simp [ab],by simp [ab],by simp [ab],by simp [ab]⟩
def Tryz.Fy:=aj t1<|aj t2<|aj t3<|aj t4<|aj t24<|aj t29<|aj Z0<|aj t32<|aj t33<|aj Z1<|aj t189<|aj Z3<|aj t192<|t193
def Tryz.FU:=aj t1<|aj t2<|aj t3<|aj t4<|aj t5<|aj t24<|aj t29<|aj Z0<|aj t32<|aj t41<|aj t45<|aj Z1<|aj t102<|aj r102<|aj t104<|aj t106<|aj r106<|aj t189<|Z3
theorem of_ok{h0:Hp}(F:h0.t.Sized h0.n){q:Gra}(d:Good q){r s t:Value}(u:cJ h0 r s t q){m:Nat}(w:m<=h0.n)(G: ∀c,av r c\/av s c\/av t c->m<=c):
 Ret zj 45 [ik q r s t] h0 fun v B=>Gr h0 B/\cE B m v q:=by
 have S:=Si F
 refine ag (n:=20) (rs:=[.tmp 2]) rfl Tryz.e45 rfl rfl rfl (lbt rfl) ?_
 simp only [BS,Nat.reduceLT,ik]
 refine am (bE (by intro x e;cases e)) S ?_;clear S;intro h b S H;simp only [ah]at S
 simp only [BS,LB,Nat.reduceLT,Nat.reduceEqDiff,Nat.reduceAdd,Nat.reduceLeDiff,Fy,zO,zK,zP,S.lds (b:=b) (o:=0) (n:=4) m0 (lbt rfl)]
 refine am (bE (by intro x e;cases e)) S ?_;clear S;intro h l S p;simp only [ah]at S
 simp only [BS,LB,Nat.reduceLT,Nat.reduceEqDiff]
 have I:=S.fr.n
 have y:=(S.row (b:=l) m0).lt S.ok
 refine step_ret (of1_ok S.ok d (S.row m1) (u.gr S.gr) of2_key (fun a z=>(d.arcs a z).1)) ?_;intro C h ⟨g,f⟩;replace S:=S.call g;clear g
 simp only [BS,LB,Nat.reduceLT,Nat.reduceEqDiff]
 have J:=S.fr.n
 have A:=(S.row (b:=l) m0).lt S.ok
 refine step_ret (of1_ok S.ok d (S.row m1) (u.gr S.gr) of3_key (fun a z=>(d.arcs a z).2.1)) ?_;intro v h ⟨g,k⟩;replace S:=S.call g;replace f:=f.gr g;clear g
 have K:Fl v:=by obtain⟨_,_,rfl,_⟩:=k;exact bD
 have L:Fl C:=by obtain⟨_,_,rfl,_⟩:=f;exact bD
 simp only [BS,LB,Nat.reduceLT,Nat.reduceEqDiff,Fy]
 have D: ∀c,c=l->c<_:=fun c e=>e▸y
 have E: ∀c,c=l->c<_:=fun c e=>e▸A
 refine aH (aC S (i:=0) rfl ?_ ?_ ?_ ono) ?_
 . exact(by simp only [Fy])
 . exact(by assumption)
 . exact zq (lbt rfl)
 clear S;rintro h ⟨S,j⟩;replace f:=f.mo j D;replace k:=k.mo j E;clear j;simp only [LC,ah,lay,zo,zp,Nat.reduceAdd]at S
 simp only [BS,LB,Nat.reduceLT,Nat.reduceEqDiff,Fy]
 refine aH (aC S (i:=0) rfl ?_ ?_ ?_ ono) ?_
 . exact(by simp only [Fy])
 . exact(by assumption)
 . exact zq (lbt rfl)
 clear S;rintro h ⟨S,j⟩;replace f:=f.mo j D;replace k:=k.mo j E;clear j;simp only [LC,ah,lay,zo,zp,Nat.reduceAdd]at S
 simp only [BS,LB,ae,Nat.reduceLT,Nat.reduceEqDiff]
 exact⟨S.gr,l,r,s,t,C,v,rfl,S.row m0,u.gr S.gr,f.low (zC w I),k.low (zC w J),zC w p,G⟩
theorem netNew_ok{h0:Hp}(p:h0.t.Sized h0.n){d:Gra}(a:Good d){f i j:Value}(k:cJ h0 f i j d):
 Ret zj 10 [ik d f i j] h0 fun r l=> ∃v,r=.tuple #[v,.nilIface]/\Gr h0 l/\cE l h0.n v d:=by
 have S:=Si p
 refine ag (n:=17) (rs:=[.tmp 2,.tmp 3]) rfl Tryz.e10 rfl rfl rfl (lbt rfl) ?_
 simp only [BS,Nat.reduceLT,ik]
 refine am (bE (by intro x e;cases e)) S ?_;clear S;intro h b S q;simp only [ah]at S
 simp only [BS,LB,Nat.reduceLT,Nat.reduceEqDiff,FU,zO,zK,zP,S.lds (b:=b) (o:=0) (n:=4) m0 (lbt rfl)]
 refine ar (check_ok S.ok a (k.gr S.gr)) ?_;intro h g;replace S:=S.call g;clear g
 simp only [BS,LB,Nat.reduceLT,Nat.reduceEqDiff,FU,zO,zK,zP,S.lds (b:=b) (o:=0) (n:=4) m0 (lbt rfl)]
 have s:=S.fr.n
 refine step_ret (own_ok S.ok a (k.gr S.gr)) ?_;intro v h ⟨g,vx',vy',va',t,ga',hz,_⟩;replace S:=S.call g;clear g
 subst t
 simp only [BS,LB,Nat.reduceLT,Nat.reduceEqDiff]
 refine step_ret (of_ok S.ok a ga' (m:=h0.n) S.fr.n (fun c u=>zC s (hz c u))) ?_;intro v h ⟨g,R⟩;replace S:=S.call g;clear g
 simp only [BS,LB,ae,Nat.reduceLT,Nat.reduceEqDiff]
 exact⟨_,rfl,S.gr,R⟩
end Go.Ab
end
section
namespace Go.Ab
structure Hd where
 id:Nat
 key:Int
deriving Inhabited,DecidableEq
def hle(a b:Hd):Prop:=a.key<b.key\/(a.key=b.key/\a.id<=b.id)
def hlt(a b:Hd):Prop:=a.key<b.key\/(a.key=b.key/\a.id<b.id)
instance (a b:Hd):Decidable (hlt a b):=by unfold hlt;infer_instance
theorem rY{a b:Hd}(h: ¬hlt a b):hle b a:=by unfold hlt at h;unfold hle;omega
theorem py{a b:Hd}(h:hlt a b):hle a b:=by unfold hlt at h;unfold hle;omega
theorem iE{a b c:Hd}(h:hle a b)(k:hle b c):hle a c:=by unfold hle at*;omega
theorem ru(a:Hd):hle a a:=by unfold hle;omega
def sw(l:List Hd)(i k:Nat):List Hd:=(l.set i (l.getD k default)).set k (l.getD i default)
theorem fm(l:List Hd)(i k:Nat):(sw l i k).length=l.length:=by simp [sw]
theorem iH(l:List Hd)(i j:Nat)(x:Hd):(l.set i x).getD j default=if i=j/\j<l.length then x else l.getD j default:=by
 rw [zk,zk,zF]
 by_cases h:i=j
 . subst h
   by_cases a:i<l.length
   . simp [a]
   . simp [a]
 . simp [h]
theorem gb(l:List Hd){i k:Nat}(f:i<l.length)(g:k<l.length)(j:Nat):(sw l i k).getD j default=if j=k then l.getD i default else if j=i then l.getD k default else l.getD j default:=by
 unfold sw
 rw [iH,iH,z8]
 by_cases a:k=j
 . subst a;simp [g]
 . have b: ¬j=k:=fun e=>a e.symm
   simp only [a,b,false_and,if_false]
   by_cases c:i=j
   . subst c;simp [f]
   . have d: ¬j=i:=fun e=>c e.symm
     simp [c,d]
theorem qf(l:List Hd){i k:Nat}(a:i<l.length)(b:k<l.length):(sw l i k).Perm l:=by
 have:((l.set i l[k]).set k l[i]).Perm l:=List.set_set_perm a b
 unfold sw
 rwa [show l.getD k default=l[k] by simp [zk,b],show l.getD i default=l[i] by simp [zk,a]]
def jP(l:List Hd):Prop:= ∀j,0<j->j<l.length->hle (l.getD ((j-1)/4) default) (l.getD j default)
def oE(l:List Hd)(i:Nat):Prop:=(∀j,0<j->j<l.length->j≠i->hle (l.getD ((j-1)/4) default) (l.getD j default))/\ ∀j,0<j->j<l.length->(j-1)/4=i->0<i->hle (l.getD ((i-1)/4) default) (l.getD j default)
theorem up_done{l:List Hd}{i:Nat}(h:oE l i)(a:i=0\/hle (l.getD ((i-1)/4) default) (l.getD i default)):jP l:=by
 intro j b c
 by_cases e:j=i
 . subst e;exact a.resolve_left (by omega)
 . exact h.1 j b c e
theorem up_step{l:List Hd}{i:Nat}(f:i<l.length)(h:oE l i)(h0:0<i)(n:hlt (l.getD i default) (l.getD ((i-1)/4) default)):oE (sw l i ((i-1)/4)) ((i-1)/4):=by
 have c:(i-1)/4<l.length:=by omega
 generalize d:(i-1)/4=p at*
 have t:p<i:=by omega
 refine⟨fun j e b g=>?_,fun j e b g q=>?_⟩
 . rw [fm]at b
   rw [gb l f c,gb l f c,if_neg g]
   by_cases a:j=i
   . subst a;rw [d,if_pos rfl,if_pos rfl];exact py n
   . rw [if_neg a]
     by_cases k:(j-1)/4=p
     . rw [if_pos k]
       have:=h.1 j e b a
       rw [k]at this
       exact iE (py n) this
     . rw [if_neg k]
       by_cases m:(j-1)/4=i
       . rw [if_pos m];have:=h.2 j e b m h0;rwa [d]at this
       . rw [if_neg m];exact h.1 j e b a
 . rw [fm]at b
   have r: ¬(p-1)/4=p:=by omega
   have s: ¬(p-1)/4=i:=by omega
   rw [gb l f c,gb l f c,if_neg r,if_neg s,if_neg (show¬j=p by omega)]
   have o:=h.1 p q c (by omega)
   by_cases a:j=i
   . rw [if_pos a];exact o
   . rw [if_neg a]
     have:=h.1 j e b a
     rw [g]at this
     exact iE o this
def qJ(l:List Hd)(i:Nat):Prop:=(∀j,0<j->j<l.length->(j-1)/4≠i->hle (l.getD ((j-1)/4) default) (l.getD j default))/\ ∀j,0<j->j<l.length->(j-1)/4=i->0<i->hle (l.getD ((i-1)/4) default) (l.getD j default)
theorem dn_done{l:List Hd}{i:Nat}(h:qJ l i)(c: ∀j,0<j->j<l.length->(j-1)/4=i->hle (l.getD i default) (l.getD j default)):jP l:=by
 intro j a b
 by_cases e:(j-1)/4=i
 . rw [e];exact c j a b e
 . exact h.1 j a b e
theorem dn_step{l:List Hd}{i b:Nat}(h:qJ l i)(o:0<b)(c:b<l.length)(k:(b-1)/4=i)(p:hlt (l.getD b default) (l.getD i default))(q: ∀j,0<j->j<l.length->(j-1)/4=i->hle (l.getD b default) (l.getD j default)):qJ (sw l i b) b:=by
 have g:i<l.length:=by omega
 refine⟨fun j d a m=>?_,fun j d a m _=>?_⟩
 . rw [fm]at a
   rw [gb l g c,gb l g c,if_neg m]
   by_cases e:(j-1)/4=i
   . rw [if_pos e]
     by_cases f:j=b
     . rw [if_pos f];exact py p
     . rw [if_neg f,if_neg (show¬j=i by omega)];exact q j d a e
   . rw [if_neg e]
     by_cases f:j=b
     . subst f;exact absurd k e
     . rw [if_neg f]
       by_cases n:j=i
       . subst n;rw [if_pos rfl];exact h.2 b o c k d
       . rw [if_neg n];exact h.1 j d a e
 . rw [fm]at a
   rw [gb l g c,gb l g c,k,if_neg (show¬i=b by omega),if_pos rfl,if_neg (show¬j=b by omega),if_neg (show¬j=i by omega)]
   have:=h.1 j d a (by omega)
   rwa [m]at this
theorem heap_min{l:List Hd}(h:jP l): ∀j,j<l.length->hle (l.getD 0 default) (l.getD j default):=by
 intro j
 induction j using Nat.strongRecOn with
 | _ j a=>
   intro b
   by_cases e:j=0
   . subst e;exact ru _
   . exact iE (a ((j-1)/4) (by omega) (by omega)) (h j (by omega) b)
theorem iX(l m:List Hd){j:Nat}(a:j<l.length):(l++m).getD j default=l.getD j default:=by
 rw [zk,zk,zw a]
theorem uB{l:List Hd}(h:jP l)(x:Hd):oE (l++[x]) l.length:=by
 refine⟨fun j b a c=>?_,fun j b a c _=>?_⟩
 . simp at a
   rw [iX l _ (by omega),iX l _ (by omega)]
   exact h j b (by omega)
 . simp at a;omega
theorem yC{l:List Hd}(h:jP l){i:Nat}{x:Hd}(f:hle x (l.getD i default)):oE (l.set i x) i:=by
 refine⟨fun j b a c=>?_,fun j b a c g=>?_⟩
 . rw [z8]at a
   rw [iH,iH,if_neg (show¬(i=j/\_)from fun e=>c e.1.symm)]
   split
   . rename_i e;have:=h j b a;rw [<-e.1]at this;exact iE f this
   . exact h j b a
 . rw [z8]at a
   rw [iH,iH,if_neg (show¬(i=j/\_) by omega),if_neg (show¬(i=(i-1)/4/\_) by omega)]
   have k:=h i g (by omega)
   have d:=h j b a
   rw [c]at d
   exact iE k d
theorem getD_take(l:List Hd){n j:Nat}(a:j<n):(l.take n).getD j default=l.getD j default:=by
 rw [zk,zk,Xc a]
theorem heap_pop{l:List Hd}(h:jP l)(d:0<l.length):qJ ((sw l 0 (l.length-1)).take (l.length-1)) 0:=by
 refine⟨fun j a b c=>?_,fun j a b c e=>?_⟩
 . rw [List.length_take,fm]at b
   rw [getD_take _ (by omega),getD_take _ (by omega),gb l (by omega) (by omega),gb l (by omega) (by omega),if_neg (by omega),if_neg (by omega),if_neg (by omega),if_neg (by omega)]
   exact h j a (by omega)
 . omega
def fi(l:List Hd)(K:Nat->Option Int):Prop:=(l.map Hd.id).Nodup/\ ∀v k,K v=some k↔⟨v,k⟩∈l
def dL(K:Nat->Option Int)(v:Nat)(x:Option Int):Nat->Option Int:=fun u=>if u=v then x else K u
theorem fi.perm{l m:List Hd}{K:Nat->Option Int}(h:fi l K)(p:m.Perm l):fi m K:=
 ⟨(p.map Hd.id).nodup_iff.2 h.1,fun v k=>by rw [h.2];exact p.mem_iff.symm⟩
theorem fi.free{l:List Hd}{K:Nat->Option Int}(h:fi l K){v:Nat}(a:K v=none):v∉l.map Hd.id:=by
 intro b
 obtain⟨x,c,rfl⟩:=List.mem_map.1 b
 have:=(h.2 x.id x.key).2 c
 rw [a]at this;cases this
theorem fi.push{l:List Hd}{K:Nat->Option Int}(h:fi l K){v:Nat}(d:K v=none)(k:Int):fi (l++[⟨v,k⟩]) (dL K v (some k)):=by
 refine⟨?_,fun u x=>?_⟩
 . rw [List.map_append,z9]
   exact⟨h.1,by simp,fun a g b f e=>h.free d (by simp at f;subst f;subst e;exact g)⟩
 . unfold dL
   by_cases e:u=v
   . subst e
     rw [if_pos rfl,Xe]
     constructor
     . intro e;cases e;exact .inr (by simp)
     . rintro(c|c)
       . have:=(h.2 u x).2 c;rw [d]at this;cases this
       . simp at c;rw [c]
   . rw [if_neg e,Xe,h.2]
     constructor
     . exact .inl
     . rintro(c|c)
       . exact c
       . simp at c;exact absurd c.1 e
theorem nodup_idx{l:List Hd}(h:(l.map Hd.id).Nodup){i j:Nat}(a:i<l.length)(b:j<l.length)(e:(l.getD i default).id=(l.getD j default).id):i=j:=by
 refine p7 h (x:=(l.getD i default).id) (by simp [a]) ?_
 rw [e];simp [b]
theorem fi.lower{l:List Hd}{K:Nat->Option Int}(h:fi l K){i:Nat}(c:i<l.length)(k:Int):fi (l.set i ⟨(l.getD i default).id,k⟩) (dL K (l.getD i default).id (some k)):=by
 have g:(l.set i ⟨(l.getD i default).id,k⟩).map Hd.id=l.map Hd.id:=by
  rw [List.map_set]
  refine zN fun j=>?_
  rw [zF]
  split
  . rename_i e;subst e;simp [c]
  . rfl
 refine⟨by rw [g];exact h.1,fun u x=>?_⟩
 unfold dL
 by_cases e:u=(l.getD i default).id
 . rw [if_pos e]
   constructor
   . intro m;cases m;subst e;exact List.mem_iff_getElem?.2 ⟨i,by simp [c]⟩
   . intro b
     obtain⟨j,a⟩:=List.mem_iff_getElem?.1 b
     rw [zF]at a
     split at a
     . cases a;rfl
     . rename_i d
       have f:=(List.getElem?_eq_some_iff.1 a).1
       exact absurd (nodup_idx h.1 c f (by rw [<-e];simp [zk,a])) d
 . rw [if_neg e,h.2]
   constructor
   . intro b
     obtain⟨j,a⟩:=List.mem_iff_getElem?.1 b
     refine List.mem_iff_getElem?.2 ⟨j,?_⟩
     rw [zF,if_neg ?_]
     . exact a
     . rintro rfl
       apply e
       simp [zk,a]
   . intro b
     obtain⟨j,a⟩:=List.mem_iff_getElem?.1 b
     rw [zF]at a
     split at a
     . cases a;exact absurd rfl e
     . exact zM a
theorem fi.pop{l:List Hd}{K:Nat->Option Int}(h:fi l K)(g:0<l.length):fi ((sw l 0 (l.length-1)).take (l.length-1)) (dL K (l.getD 0 default).id none):=by
 have p:=qf l (i:=0) (k:=l.length-1) g (by omega)
 have n:=h.perm p
 have e:sw l 0 (l.length-1)=(sw l 0 (l.length-1)).take (l.length-1)++[l.getD 0 default]:=by
  refine zN fun j=>?_
  have o:=gb l (i:=0) (k:=l.length-1) g (by omega) (l.length-1)
  rw [if_pos rfl]at o
  have a:=fm l 0 (l.length-1)
  by_cases q:j<l.length-1
  . rw [zw (by simp [a];omega),Xc q]
  . by_cases c:j=l.length-1
    . subst c
      rw [zy (by simp [a])]
      rw [<-o]
      simp [a,zk,show l.length-1<l.length by omega]
    . rw [zZ (by omega),zZ (by simp [a];omega)]
 generalize(sw l 0 (l.length-1)).take (l.length-1)=m at*
 generalize l.getD 0 default=x at*
 rw [e]at n
 obtain⟨d,r⟩:=n
 rw [List.map_append,z9]at d
 refine⟨d.1,fun v k=>?_⟩
 unfold dL
 by_cases b:v=x.id
 . rw [if_pos b]
   constructor
   . intro h;cases h
   . intro s
     exact absurd b (d.2.2 v (List.mem_map_of_mem (f:=Hd.id) s) x.id (by simp))
 . rw [if_neg b,r,Xe]
   constructor
   . rintro(h|h)
     . exact h
     . simp at h;exact absurd (by rw [<-h]) b
   . exact .inl
theorem fi.at{l:List Hd}{K:Nat->Option Int}(h:fi l K){i:Nat}(a:i<l.length):K (l.getD i default).id=some (l.getD i default).key:=
 (h.2 _ _).2 (List.mem_iff_getElem?.2 ⟨i,by simp [a]⟩)
theorem fi.idx{l:List Hd}{K:Nat->Option Int}(h:fi l K){v:Nat}{k:Int}(b:K v=some k): ∃i,i<l.length/\l.getD i default=⟨v,k⟩:=by
 obtain⟨i,a⟩:=List.mem_iff_getElem?.1 ((h.2 v k).1 b)
 exact⟨i,(List.getElem?_eq_some_iff.1 a).1,by simp [zk,a]⟩
theorem fi.nil{K:Nat->Option Int}(h:fi [] K)(v:Nat):K v=none:=by
 cases a:K v with
 |none=>rfl
 |some k=>have:=(h.2 v k).1 a;cases this
theorem cont_nil:fi [] (fun _=>none):=⟨.nil,fun v k=>by constructor<;>intro h<;>cases h⟩
end Go.Ab

end
section
namespace Go.Ab
def FAR:Nat:=72057594037927936
def co:Nat:=2147483647
theorem nH:FAR=72057594037927936:=rfl
theorem oe:co=2147483647:=rfl
inductive Wk(B:List Arc)(s:Nat):Nat->Nat->Prop where
 |nil:Wk B s s 0
 |snoc {w:Nat} {a:Arc}:a∈B->Wk B s a.s w->Wk B s a.t (w+a.w)
theorem Wk.snoc'{B:List Arc}{s u v w x:Nat}(h:Wk B s u w){a:Arc}(b:a∈B)(c:a.s=u)(d:a.t=v)(e:x=w+a.w):Wk B s v x:=by
 subst c d e;exact .snoc b h
def IsD(B:List Arc)(s v x:Nat):Prop:=(x<FAR/\Wk B s v x/\ ∀w,Wk B s v w->x<=w)\/(x=FAR/\ ∀w,¬Wk B s v w)
theorem IsD.le{B:List Arc}{s v x:Nat}(h:IsD B s v x):x<=FAR:=by
 rcases h with⟨a,_,_⟩|⟨a,_⟩<;>omega
theorem IsD.arc{B:List Arc}{s x y:Nat}{a:Arc}(c:a∈B)(f:IsD B s a.s x)(d:IsD B s a.t y):y<=x+a.w:=by
 rcases f with⟨g,b,j⟩|⟨g,b⟩
 . rcases d with⟨h,e,i⟩|⟨h,e⟩
   . exact i _ (.snoc c b)
   . exact absurd (.snoc c b) (e _)
 . have:=d.le;omega
theorem mH: ∀(N:Nat) (l:List Nat),l.Nodup->(∀x∈l,x<N)->l.length<=N
 | 0,l,_,h=>by
   cases l with
   |nil=>simp
   |cons x l=>have:=h x (by simp);omega
 | N+1,l,b,h=>by
   have f:=mH N (l.erase N) (b.erase N) (fun x c=>by
    have d:=h x (List.mem_of_mem_erase c)
    have g:x≠N:=fun e=>by subst e;exact(List.Nodup.not_mem_erase b) c
    omega)
   have d:=List.length_erase (a:=N) (l:=l)
   split at d<;>omega

section
variable{B:List Arc}{s N:Nat}{O:List Nat}{D:Nat->Nat}{K:Nat->Option Int}{ex:Arc->Prop}
structure Dj(B:List Arc)(s N:Nat)(O:List Nat)(D:Nat->Nat)(K:Nat->Option Int)(ex:Arc->Prop):Prop where
 i1: ∀v,v∈O->K v=none
 i2: ∀v∈O,Wk B s v (D v)/\(∀w,Wk B s v w->D v<=w)/\D v<=O.length*co
 i2f: ∀v,v∉O->D v=FAR
 i3: ∀v k,K v=some k->v<N/\ ∃n:Nat,k=n/\Wk B s v n/\n<=O.length*co
 i4: ∀a∈B,a.s∈O-> ¬ex a->a.t∈O\/ ∃k:Int,K a.t=some k/\k<=D a.s+a.w
 i5:s∈O\/K s=some 0
 nd:O.Nodup
 lt: ∀v∈O,v<N
theorem Dj.len(d:Dj B s N O D K ex):O.length<=N:=mH N O d.nd d.lt
theorem Dj.front(d:Dj B s N O D K (fun _=>False)){x w:Nat}(h:Wk B s x w):x∈O\/ ∃y k,K y=some k/\k<=(w:Int):=by
 induction h with
 |nil=>exact d.i5.imp (fun h=>h) (fun h=>⟨_,_,h,by omega⟩)
 | @snoc w a e f b=>
   rcases b with b|⟨y,k,c,g⟩
   . rcases d.i4 a e b (fun h=>h)with h|⟨k,c,g⟩
     . exact .inl h
     . have:=(d.i2 _ b).2.1 _ f
       exact .inr ⟨_,k,c,by omega⟩
   . exact .inr ⟨y,k,c,by omega⟩
theorem Dj.pop(d:Dj B s N O D K (fun _=>False)){v:Nat}{n:Nat}(q:K v=some (n:Int))(A: ∀u k,K u=some k->(n:Int)<=k):
 Dj B s N (O++[v]) (fun u=>if u=v then n else D u) (dL K v none) (fun a=>a.s=v)/\v∉O/\v<N/\n<=O.length*co:=by
 have g:v∉O:=fun h=>by have:=d.i1 v h;rw [q]at this;cases this
 obtain⟨i,C,e,E,l⟩:=d.i3 v _ q
 have e:n=C:=by omega
 subst e
 have r:(O++[v]).length*co=O.length*co+co:=by rw [zH,Xh,Nat.succ_mul]
 refine⟨⟨fun u f=>?_,fun u f=>?_,fun u f=>?_,fun u k f=>?_,fun a o t x=>?_,?_,?_,fun u f=>?_⟩,g,i,l⟩
 . unfold dL
   by_cases e:u=v
   . rw [if_pos e]
   . rw [if_neg e];simp [e]at f;exact d.i1 u f
 . rw [r]
   by_cases e:u=v
   . subst e
     simp only [if_true]
     refine⟨E,fun w h=>?_,by omega⟩
     rcases d.front h with j|⟨y,k,j,z⟩
     . exact absurd j g
     . have:=A y k j;omega
   . simp only [e,if_false]
     simp [e]at f
     obtain⟨a,b,c⟩:=d.i2 u f
     exact⟨a,b,by omega⟩
 . simp at f
   simp only [f.2,if_false]
   exact d.i2f u f.1
 . unfold dL at f
   split at f
   . cases f
   . obtain⟨a,m,b,c,e⟩:=d.i3 u k f
     exact⟨a,m,b,c,by rw [r];omega⟩
 . simp [x]at t
   have p: ¬a.s=v:=x
   simp only [p,if_false]
   rcases d.i4 a o t (fun h=>h)with h|⟨k,j,z⟩
   . exact .inl (by simp [h])
   . by_cases e:a.t=v
     . exact .inl (by simp [e])
     . exact .inr ⟨k,by unfold dL;rw [if_neg e];exact j,z⟩
 . rcases d.i5 with h|h
   . exact .inl (by simp [h])
   . by_cases e:s=v
     . exact .inl (by simp [e])
     . exact .inr (by unfold dL;rw [if_neg e];exact h)
 . rw [z9]
   exact⟨d.nd,by simp,fun a o b l e=>g (by simp at l;subst l;subst e;exact o)⟩
 . rcases List.mem_append.1 f with h|h
   . exact d.lt u h
   . simp at h;subst h;exact i
theorem Dj.done(d:Dj B s N O D K (fun _=>False))(f: ∀v,K v=none)(g:N<=12)(v:Nat):IsD B s v (D v):=by
 have j:=Nat.mul_le_mul_right co (zC d.len g)
 have:=nH
 have:=oe
 by_cases h:v∈O
 . obtain⟨a,b,c⟩:=d.i2 v h
   exact .inl ⟨by omega,a,b⟩
 . refine .inr ⟨d.i2f v h,fun w i=>?_⟩
   rcases d.front i with e|⟨y,k,e,_⟩
   . exact h e
   . rw [f]at e;cases e
end
theorem j9{A:List Arc}{f:Arc->Nat}{j v i:Nat}:i∈outs A f j v↔i<j/\f (A.getD i default)=v:=by
 unfold outs
 rw [List.mem_filter,Xf,decide_eq_true_eq]
def cq(a:Arc):Arc:=⟨a.t,a.s,a.w⟩

structure Ls(B:List Arc)(s N:Nat)(l:Nat->Nat):Prop where
 le: ∀v,l v<=FAR
 wk: ∀v,l v=FAR\/Wk B s v (l v)
 s0:l s=0
def fg(l:Nat->Nat)(v x:Nat):Nat->Nat:=fun u=>if u=v then x else l u
theorem Ls.step{B:List Arc}{s N:Nat}{l:Nat->Nat}(h:Ls B s N l){a:Arc}(b:a∈B)(f:l a.s<FAR)(c:l a.s+a.w<l a.t):Ls B s N (fg l a.t (l a.s+a.w)):=by
 have d:=(h.wk a.s).resolve_left (by omega)
 refine⟨fun v=>?_,fun v=>?_,?_⟩
 . unfold fg;split
   . have:=h.le a.t;omega
   . exact h.le v
 . unfold fg;split
   . rename_i e;subst e;exact .inr (.snoc b d)
   . exact h.wk v
 . unfold fg;split
   . rename_i e;rw [<-e,h.s0]at c;omega
   . exact h.s0
end Go.Ab

end

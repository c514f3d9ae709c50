/- Nets, cells, flags: what the functions do (part 1). -/
import Derived.Test.YtfdopodkngggfaaGreatDoorEnv
open Go.Ab.Tryz renaming abEnv->zM
open List renaming getD_eq_getElem?_getD->zN,getElem?_append_right->zP,nodup_append->zQ,getElem?_append_left->zR,mem_of_getElem?->zS,mem_map_of_mem->zT,map_append->zW,range->zX,length_take->zY,ext_getElem?->Xa,getElem?_set->Xb,getElem?_replicate->Xc,length_set->Xd,map_cons->Xe,getElem?_map->Xf,length_cons->Xg,length_append->Xh,replicate->Xk,take_succ_cons->Xm,length_flatMap->Xn,nodup_cons->Xo,mem_cons->Xt,length_replicate->Xv,getElem?_append->Xw,map_const'->Xx,take_zero->Xy,drop_zero->Xz,drop_eq_getElem_cons->XA,filter_cons->XB,getElem?_take_of_lt->XC,not_mem_nil->XE,range_succ->XG,mem_append->XH,take->XJ,drop->XK,getElem?_eq_none->XM,flatMap_eq_foldl->XO,flatMap_append->XQ,drop_succ_cons->XR
open And renaming intro->zO
open Prod renaming fst->zU
open Nat renaming ble_eq_true_of_le->zV,beq->Xi,zero_mul->Xj,le_refl->Xl,le_trans->Xp,zero_add->Xr,mul_one->Xs,ble->Xu,beq_refl->XD,add_zero->XF,min_eq_left->XI,one_mul->XL,eq_of_beq_eq_true->XN,blt_eq->XP,sub_zero->XS
open Int renaming cast_ofNat_Int->zZ
open Option renaming isSome_none->Xq
set_option maxHeartbeats 4000000
set_option linter.defProp false
set_option linter.unusedVariables false
set_option linter.unusedSimpArgs false
section
namespace Go.Ab
theorem Si{h:Hp}(ok:h.t.Sized h.n):St NoM h h [] []:=St.init ok
theorem aj{a b:Prop}(x:a)(y:b):a/\b:=⟨x,y⟩
set_option linter.defProp false in
def LC:=zO @List.set_cons_zero.{0}<|zO @List.set_cons_succ.{0}<|zO @List.cons_append.{0}<|zO @List.nil_append.{0}<|zO @List.append_nil.{0}<|zO @List.length_cons.{0}<|zO @List.length_nil.{0}<|@Nat.add_zero
theorem lbt{a b:Nat}(h:Xu a b=true):a<=b:=Nat.le_of_ble_eq_true h
theorem ono:(1:Nat)≠0:=Nat.one_ne_zero
set_option linter.defProp false in
def LB:=zO @if_true.{1}<|zO @if_false.{1}<|zO @eq_self.{1}<|zO @List.map_cons.{0,0}<|zO @List.map_nil.{0,0}<|zO @List.append_nil.{0}<|zO @List.nil_append.{0}<|zO @List.cons_append.{0}<|zO @List.getElem?_cons_zero.{0}<|zO @List.getElem?_cons_succ.{0}<|zO @List.set_cons_zero.{0}<|zO @List.set_cons_succ.{0}<|zO @List.length_cons.{0}<|zO @List.length_nil.{0}<|zO @Nat.add_zero<|zO @Nat.zero_add<|zO @Nat.mul_one<|zO @Nat.zero_mul<|zO @cond_true.{1}<|zO @cond_false.{1}<|zO @decide_true<|zO @decide_false<|zO @Bool.and_true<|zO @Bool.and_false<|zO @Bool.not_false<|zO @Bool.not_true<|zO @true_and<|zO @and_true<|zO @Option.isSome_some.{0}<|@List.map_toArray.{0,0}
open Go.Proofs
theorem Tryz.a1:Tryz.abEnv.agg 1=some false:=by kernel_rfl
theorem Tryz.s1:Tryz.abEnv.sz 1=some 1:=by kernel_rfl
theorem Tryz.z1:Tryz.abEnv.zero 1=some [.nilFunc]:=by kernel_rfl
theorem Tryz.n1:az zM 1=some false:=by kernel_rfl
theorem Tryz.u2:Tryz.abEnv.und 2=some (.int .i64):=by kernel_rfl
theorem Tryz.a2:Tryz.abEnv.agg 2=some false:=by kernel_rfl
theorem Tryz.s2:Tryz.abEnv.sz 2=some 1:=by kernel_rfl
theorem Tryz.z2:Tryz.abEnv.zero 2=some [.int .i64 0]:=by kernel_rfl
theorem Tryz.i2:aQ zM 2=true:=by kernel_rfl
theorem Tryz.e2E:eB zM 2 8 1 [.int .i64 0]:=⟨⟨_,rfl,by kernel_rfl,by kernel_rfl⟩,Tryz.z2,rfl⟩
theorem Tryz.u3:Tryz.abEnv.und 3=some (.int .i64):=by kernel_rfl
theorem Tryz.a3:Tryz.abEnv.agg 3=some false:=by kernel_rfl
theorem Tryz.s3:Tryz.abEnv.sz 3=some 1:=by kernel_rfl
theorem Tryz.z3:Tryz.abEnv.zero 3=some [.int .i64 0]:=by kernel_rfl
theorem Tryz.i3:aQ zM 3=true:=by kernel_rfl
theorem Tryz.e3E:eB zM 3 8 1 [.int .i64 0]:=⟨⟨_,rfl,by kernel_rfl,by kernel_rfl⟩,Tryz.z3,rfl⟩
theorem Tryz.u4:Tryz.abEnv.und 4=some .bool:=by kernel_rfl
theorem Tryz.a4:Tryz.abEnv.agg 4=some false:=by kernel_rfl
theorem Tryz.s4:Tryz.abEnv.sz 4=some 1:=by kernel_rfl
theorem Tryz.z4:Tryz.abEnv.zero 4=some [.bool false]:=by kernel_rfl
theorem Tryz.n4:az zM 4=some false:=by kernel_rfl
theorem Tryz.u5:Tryz.abEnv.und 5=some (.int .u8):=by kernel_rfl
theorem Tryz.a5:Tryz.abEnv.agg 5=some false:=by kernel_rfl
theorem Tryz.s5:Tryz.abEnv.sz 5=some 1:=by kernel_rfl
theorem Tryz.z5:Tryz.abEnv.zero 5=some [.int .u8 0]:=by kernel_rfl
theorem Tryz.i5:aQ zM 5=true:=by kernel_rfl
theorem Tryz.u6:Tryz.abEnv.und 6=some (.int .u8):=by kernel_rfl
theorem Tryz.a6:Tryz.abEnv.agg 6=some false:=by kernel_rfl
theorem Tryz.s6:Tryz.abEnv.sz 6=some 1:=by kernel_rfl
theorem Tryz.z6:Tryz.abEnv.zero 6=some [.int .u8 0]:=by kernel_rfl
theorem Tryz.i6:aQ zM 6=true:=by kernel_rfl
theorem Tryz.a7:Tryz.abEnv.agg 7=some true:=by kernel_rfl
theorem Tryz.s7:Tryz.abEnv.sz 7=some 4:=by kernel_rfl
theorem Tryz.z7:Tryz.abEnv.zero 7=some [.int .i64 0,.int .i64 0,.bool false,.int .u8 0]:=by kernel_rfl
theorem Tryz.i7:aQ zM 7=true:=by kernel_rfl
theorem Tryz.n7:az zM 7=some false:=by kernel_rfl
theorem Tryz.p7:placesOf zM 7=some [(0,1),(1,1),(2,1),(3,1)]:=by kernel_rfl
theorem Tryz.ff7(b o:Nat)(s:Option Nat):ah zM 7 (.pointer (some ⟨b,o,s⟩)) 0=some (.pointer (some ⟨b,o+0,none⟩))/\ah zM 7 (.pointer (some ⟨b,o,s⟩)) 1=some (.pointer (some ⟨b,o+1,none⟩))/\ah zM 7 (.pointer (some ⟨b,o,s⟩)) 2=some (.pointer (some ⟨b,o+2,none⟩))/\ah zM 7 (.pointer (some ⟨b,o,s⟩)) 3=some (.pointer (some ⟨b,o+3,none⟩)):=⟨rfl,rfl,rfl,rfl⟩
theorem Tryz.d7(x0 x1 x2 x3:Value):ar zM 7 (.agg ⟨[x0,x1,x2,x3]⟩) 0=some x0/\ar zM 7 (.agg ⟨[x0,x1,x2,x3]⟩) 1=some x1/\ar zM 7 (.agg ⟨[x0,x1,x2,x3]⟩) 2=some x2/\ar zM 7 (.agg ⟨[x0,x1,x2,x3]⟩) 3=some x3:=⟨rfl,rfl,rfl,rfl⟩
theorem Tryz.a8:Tryz.abEnv.agg 8=some true:=by kernel_rfl
theorem Tryz.s8:Tryz.abEnv.sz 8=some 4:=by kernel_rfl
theorem Tryz.z8:Tryz.abEnv.zero 8=some [.int .i64 0,.int .i64 0,.bool false,.int .u8 0]:=by kernel_rfl
theorem Tryz.i8:aQ zM 8=true:=by kernel_rfl
theorem Tryz.n8:az zM 8=some false:=by kernel_rfl
theorem Tryz.p8:placesOf zM 8=some [(0,1),(1,1),(2,1),(3,1)]:=by kernel_rfl
theorem Tryz.ff8(b o:Nat)(s:Option Nat):ah zM 8 (.pointer (some ⟨b,o,s⟩)) 0=some (.pointer (some ⟨b,o+0,none⟩))/\ah zM 8 (.pointer (some ⟨b,o,s⟩)) 1=some (.pointer (some ⟨b,o+1,none⟩))/\ah zM 8 (.pointer (some ⟨b,o,s⟩)) 2=some (.pointer (some ⟨b,o+2,none⟩))/\ah zM 8 (.pointer (some ⟨b,o,s⟩)) 3=some (.pointer (some ⟨b,o+3,none⟩)):=⟨rfl,rfl,rfl,rfl⟩
theorem Tryz.d8(x0 x1 x2 x3:Value):ar zM 8 (.agg ⟨[x0,x1,x2,x3]⟩) 0=some x0/\ar zM 8 (.agg ⟨[x0,x1,x2,x3]⟩) 1=some x1/\ar zM 8 (.agg ⟨[x0,x1,x2,x3]⟩) 2=some x2/\ar zM 8 (.agg ⟨[x0,x1,x2,x3]⟩) 3=some x3:=⟨rfl,rfl,rfl,rfl⟩
theorem Tryz.u9:Tryz.abEnv.und 9=some .string:=by kernel_rfl
theorem Tryz.a9:Tryz.abEnv.agg 9=some false:=by kernel_rfl
theorem Tryz.s9:Tryz.abEnv.sz 9=some 1:=by kernel_rfl
theorem Tryz.z9:Tryz.abEnv.zero 9=some [.string ⟨#[]⟩]:=by kernel_rfl
theorem Tryz.n9:az zM 9=some false:=by kernel_rfl
theorem Tryz.u10:Tryz.abEnv.und 10=some .string:=by kernel_rfl
theorem Tryz.a10:Tryz.abEnv.agg 10=some false:=by kernel_rfl
theorem Tryz.s10:Tryz.abEnv.sz 10=some 1:=by kernel_rfl
theorem Tryz.z10:Tryz.abEnv.zero 10=some [.string ⟨#[]⟩]:=by kernel_rfl
theorem Tryz.n10:az zM 10=some false:=by kernel_rfl
theorem Tryz.u11:Tryz.abEnv.und 11=some .string:=by kernel_rfl
theorem Tryz.a11:Tryz.abEnv.agg 11=some false:=by kernel_rfl
theorem Tryz.s11:Tryz.abEnv.sz 11=some 1:=by kernel_rfl
theorem Tryz.z11:Tryz.abEnv.zero 11=some [.string ⟨#[]⟩]:=by kernel_rfl
theorem Tryz.n11:az zM 11=some false:=by kernel_rfl
theorem Tryz.u12:Tryz.abEnv.und 12=some (.int .u64):=by kernel_rfl
theorem Tryz.a12:Tryz.abEnv.agg 12=some false:=by kernel_rfl
theorem Tryz.s12:Tryz.abEnv.sz 12=some 1:=by kernel_rfl
theorem Tryz.z12:Tryz.abEnv.zero 12=some [.int .u64 0]:=by kernel_rfl
theorem Tryz.i12:aQ zM 12=true:=by kernel_rfl
theorem Tryz.a13:Tryz.abEnv.agg 13=some true:=by kernel_rfl
theorem Tryz.s13:Tryz.abEnv.sz 13=some 2:=by kernel_rfl
theorem Tryz.z13:Tryz.abEnv.zero 13=some [.string ⟨#[]⟩,.int .u64 0]:=by kernel_rfl
theorem Tryz.i13:aQ zM 13=true:=by kernel_rfl
theorem Tryz.n13:az zM 13=some false:=by kernel_rfl
theorem Tryz.p13:placesOf zM 13=some [(0,1),(1,1)]:=by kernel_rfl
theorem Tryz.ff13(b o:Nat)(s:Option Nat):ah zM 13 (.pointer (some ⟨b,o,s⟩)) 0=some (.pointer (some ⟨b,o+0,none⟩))/\ah zM 13 (.pointer (some ⟨b,o,s⟩)) 1=some (.pointer (some ⟨b,o+1,none⟩)):=⟨rfl,rfl⟩
theorem Tryz.d13(x0 x1:Value):ar zM 13 (.agg ⟨[x0,x1]⟩) 0=some x0/\ar zM 13 (.agg ⟨[x0,x1]⟩) 1=some x1:=⟨rfl,rfl⟩
theorem Tryz.a14:Tryz.abEnv.agg 14=some true:=by kernel_rfl
theorem Tryz.s14:Tryz.abEnv.sz 14=some 2:=by kernel_rfl
theorem Tryz.z14:Tryz.abEnv.zero 14=some [.string ⟨#[]⟩,.int .u64 0]:=by kernel_rfl
theorem Tryz.i14:aQ zM 14=true:=by kernel_rfl
theorem Tryz.n14:az zM 14=some false:=by kernel_rfl
theorem Tryz.p14:placesOf zM 14=some [(0,1),(1,1)]:=by kernel_rfl
theorem Tryz.ff14(b o:Nat)(s:Option Nat):ah zM 14 (.pointer (some ⟨b,o,s⟩)) 0=some (.pointer (some ⟨b,o+0,none⟩))/\ah zM 14 (.pointer (some ⟨b,o,s⟩)) 1=some (.pointer (some ⟨b,o+1,none⟩)):=⟨rfl,rfl⟩
theorem Tryz.d14(x0 x1:Value):ar zM 14 (.agg ⟨[x0,x1]⟩) 0=some x0/\ar zM 14 (.agg ⟨[x0,x1]⟩) 1=some x1:=⟨rfl,rfl⟩
theorem Tryz.u15:Tryz.abEnv.und 15=some (.pointer 339):=by kernel_rfl
theorem Tryz.a15:Tryz.abEnv.agg 15=some false:=by kernel_rfl
theorem Tryz.s15:Tryz.abEnv.sz 15=some 1:=by kernel_rfl
theorem Tryz.z15:Tryz.abEnv.zero 15=some [.pointer none]:=by kernel_rfl
theorem Tryz.q15:fS zM 15=true:=by kernel_rfl
theorem Tryz.i15:aQ zM 15=true:=by kernel_rfl
theorem Tryz.n15:az zM 15=some false:=by kernel_rfl
theorem Tryz.u16:Tryz.abEnv.und 16=some (.pointer 342):=by kernel_rfl
theorem Tryz.a16:Tryz.abEnv.agg 16=some false:=by kernel_rfl
theorem Tryz.s16:Tryz.abEnv.sz 16=some 1:=by kernel_rfl
theorem Tryz.z16:Tryz.abEnv.zero 16=some [.pointer none]:=by kernel_rfl
theorem Tryz.q16:fS zM 16=true:=by kernel_rfl
theorem Tryz.i16:aQ zM 16=true:=by kernel_rfl
theorem Tryz.n16:az zM 16=some false:=by kernel_rfl
theorem Tryz.u17:Tryz.abEnv.und 17=some (.pointer 349):=by kernel_rfl
theorem Tryz.a17:Tryz.abEnv.agg 17=some false:=by kernel_rfl
theorem Tryz.s17:Tryz.abEnv.sz 17=some 1:=by kernel_rfl
theorem Tryz.z17:Tryz.abEnv.zero 17=some [.pointer none]:=by kernel_rfl
theorem Tryz.q17:fS zM 17=true:=by kernel_rfl
theorem Tryz.i17:aQ zM 17=true:=by kernel_rfl
theorem Tryz.n17:az zM 17=some false:=by kernel_rfl
theorem Tryz.a18:Tryz.abEnv.agg 18=some true:=by kernel_rfl
theorem Tryz.s18:Tryz.abEnv.sz 18=some 1:=by kernel_rfl
theorem Tryz.z18:Tryz.abEnv.zero 18=some [.pointer none]:=by kernel_rfl
theorem Tryz.i18:aQ zM 18=true:=by kernel_rfl
theorem Tryz.n18:az zM 18=some false:=by kernel_rfl
theorem Tryz.p18:placesOf zM 18=some [(0,1)]:=by kernel_rfl
theorem Tryz.ff18(b o:Nat)(s:Option Nat):ah zM 18 (.pointer (some ⟨b,o,s⟩)) 0=some (.pointer (some ⟨b,o+0,none⟩)):=rfl
theorem Tryz.d18(x0:Value):ar zM 18 (.agg ⟨[x0]⟩) 0=some x0:=rfl
theorem Tryz.a19:Tryz.abEnv.agg 19=some true:=by kernel_rfl
theorem Tryz.s19:Tryz.abEnv.sz 19=some 1:=by kernel_rfl
theorem Tryz.z19:Tryz.abEnv.zero 19=some [.pointer none]:=by kernel_rfl
theorem Tryz.i19:aQ zM 19=true:=by kernel_rfl
theorem Tryz.n19:az zM 19=some false:=by kernel_rfl
theorem Tryz.p19:placesOf zM 19=some [(0,1)]:=by kernel_rfl
theorem Tryz.ff19(b o:Nat)(s:Option Nat):ah zM 19 (.pointer (some ⟨b,o,s⟩)) 0=some (.pointer (some ⟨b,o+0,none⟩)):=rfl
theorem Tryz.d19(x0:Value):ar zM 19 (.agg ⟨[x0]⟩) 0=some x0:=rfl
theorem Tryz.a20:Tryz.abEnv.agg 20=some false:=by kernel_rfl
theorem Tryz.s20:Tryz.abEnv.sz 20=some 1:=by kernel_rfl
theorem Tryz.z20:Tryz.abEnv.zero 20=some [.nilIface]:=by kernel_rfl
theorem Tryz.q20:isIface zM 20=true:=by kernel_rfl
theorem Tryz.n20:az zM 20=some false:=by kernel_rfl
theorem Tryz.u21:Tryz.abEnv.und 21=some (.int .i32):=by kernel_rfl
theorem Tryz.a21:Tryz.abEnv.agg 21=some false:=by kernel_rfl
theorem Tryz.s21:Tryz.abEnv.sz 21=some 1:=by kernel_rfl
theorem Tryz.z21:Tryz.abEnv.zero 21=some [.int .i32 0]:=by kernel_rfl
theorem Tryz.i21:aQ zM 21=true:=by kernel_rfl
theorem Tryz.u22:Tryz.abEnv.und 22=some (.slice 5):=by kernel_rfl
theorem Tryz.a22:Tryz.abEnv.agg 22=some false:=by kernel_rfl
theorem Tryz.s22:Tryz.abEnv.sz 22=some 1:=by kernel_rfl
theorem Tryz.z22:Tryz.abEnv.zero 22=some [.slice none 0 0]:=by kernel_rfl
theorem Tryz.q22:kh zM 22=true:=by kernel_rfl
theorem Tryz.n22:az zM 22=some false:=by kernel_rfl
theorem Tryz.u23:Tryz.abEnv.und 23=some (.int .i8):=by kernel_rfl
theorem Tryz.a23:Tryz.abEnv.agg 23=some false:=by kernel_rfl
theorem Tryz.s23:Tryz.abEnv.sz 23=some 1:=by kernel_rfl
theorem Tryz.z23:Tryz.abEnv.zero 23=some [.int .i8 0]:=by kernel_rfl
theorem Tryz.i23:aQ zM 23=true:=by kernel_rfl
theorem Tryz.u24:Tryz.abEnv.und 24=some (.slice 2):=by kernel_rfl
theorem Tryz.a24:Tryz.abEnv.agg 24=some false:=by kernel_rfl
theorem Tryz.s24:Tryz.abEnv.sz 24=some 1:=by kernel_rfl
theorem Tryz.z24:Tryz.abEnv.zero 24=some [.slice none 0 0]:=by kernel_rfl
theorem Tryz.q24:kh zM 24=true:=by kernel_rfl
theorem Tryz.n24:az zM 24=some false:=by kernel_rfl
theorem Tryz.e24E:eB zM 24 24 1 [.slice none 0 0]:=⟨⟨_,rfl,by kernel_rfl,by kernel_rfl⟩,Tryz.z24,rfl⟩
theorem Tryz.a26:Tryz.abEnv.agg 26=some true:=by kernel_rfl
theorem Tryz.s26:Tryz.abEnv.sz 26=some 6:=by kernel_rfl
theorem Tryz.z26:Tryz.abEnv.zero 26=some [.slice none 0 0,.slice none 0 0,.int .u8 0,.int .u8 0,.int .i8 0,.slice none 0 0]:=by kernel_rfl
theorem Tryz.i26:aQ zM 26=true:=by kernel_rfl
theorem Tryz.n26:az zM 26=some false:=by kernel_rfl
theorem Tryz.p26:placesOf zM 26=some [(0,1),(1,1),(2,1),(3,1),(4,1),(5,1)]:=by kernel_rfl
theorem Tryz.ff26(b o:Nat)(s:Option Nat):ah zM 26 (.pointer (some ⟨b,o,s⟩)) 0=some (.pointer (some ⟨b,o+0,none⟩))/\ah zM 26 (.pointer (some ⟨b,o,s⟩)) 1=some (.pointer (some ⟨b,o+1,none⟩))/\ah zM 26 (.pointer (some ⟨b,o,s⟩)) 2=some (.pointer (some ⟨b,o+2,none⟩))/\ah zM 26 (.pointer (some ⟨b,o,s⟩)) 3=some (.pointer (some ⟨b,o+3,none⟩))/\ah zM 26 (.pointer (some ⟨b,o,s⟩)) 4=some (.pointer (some ⟨b,o+4,none⟩))/\ah zM 26 (.pointer (some ⟨b,o,s⟩)) 5=some (.pointer (some ⟨b,o+5,none⟩)):=⟨rfl,rfl,rfl,rfl,rfl,rfl⟩
theorem Tryz.d26(x0 x1 x2 x3 x4 x5:Value):ar zM 26 (.agg ⟨[x0,x1,x2,x3,x4,x5]⟩) 0=some x0/\ar zM 26 (.agg ⟨[x0,x1,x2,x3,x4,x5]⟩) 1=some x1/\ar zM 26 (.agg ⟨[x0,x1,x2,x3,x4,x5]⟩) 2=some x2/\ar zM 26 (.agg ⟨[x0,x1,x2,x3,x4,x5]⟩) 3=some x3/\ar zM 26 (.agg ⟨[x0,x1,x2,x3,x4,x5]⟩) 4=some x4/\ar zM 26 (.agg ⟨[x0,x1,x2,x3,x4,x5]⟩) 5=some x5:=⟨rfl,rfl,rfl,rfl,rfl,rfl⟩
theorem Tryz.a28:Tryz.abEnv.agg 28=some true:=by kernel_rfl
theorem Tryz.s28:Tryz.abEnv.sz 28=some 4:=by kernel_rfl
theorem Tryz.z28:Tryz.abEnv.zero 28=some [.int .i64 0,.int .i64 0,.int .i64 0,.int .i64 0]:=by kernel_rfl
theorem Tryz.i28:aQ zM 28=true:=by kernel_rfl
theorem Tryz.n28:az zM 28=some false:=by kernel_rfl
theorem Tryz.p28:placesOf zM 28=some [(0,1),(1,1),(2,1),(3,1)]:=by kernel_rfl
theorem Tryz.ff28(b o:Nat)(s:Option Nat):ah zM 28 (.pointer (some ⟨b,o,s⟩)) 0=some (.pointer (some ⟨b,o+0,none⟩))/\ah zM 28 (.pointer (some ⟨b,o,s⟩)) 1=some (.pointer (some ⟨b,o+1,none⟩))/\ah zM 28 (.pointer (some ⟨b,o,s⟩)) 2=some (.pointer (some ⟨b,o+2,none⟩))/\ah zM 28 (.pointer (some ⟨b,o,s⟩)) 3=some (.pointer (some ⟨b,o+3,none⟩)):=⟨rfl,rfl,rfl,rfl⟩
theorem Tryz.d28(x0 x1 x2 x3:Value):ar zM 28 (.agg ⟨[x0,x1,x2,x3]⟩) 0=some x0/\ar zM 28 (.agg ⟨[x0,x1,x2,x3]⟩) 1=some x1/\ar zM 28 (.agg ⟨[x0,x1,x2,x3]⟩) 2=some x2/\ar zM 28 (.agg ⟨[x0,x1,x2,x3]⟩) 3=some x3:=⟨rfl,rfl,rfl,rfl⟩
theorem Tryz.u29:Tryz.abEnv.und 29=some (.slice 87):=by kernel_rfl
theorem Tryz.a29:Tryz.abEnv.agg 29=some false:=by kernel_rfl
theorem Tryz.s29:Tryz.abEnv.sz 29=some 1:=by kernel_rfl
theorem Tryz.z29:Tryz.abEnv.zero 29=some [.slice none 0 0]:=by kernel_rfl
theorem Tryz.q29:kh zM 29=true:=by kernel_rfl
theorem Tryz.n29:az zM 29=some false:=by kernel_rfl
theorem Tryz.a31:Tryz.abEnv.agg 31=some true:=by kernel_rfl
theorem Tryz.s31:Tryz.abEnv.sz 31=some 4:=by kernel_rfl
theorem Tryz.z31:Tryz.abEnv.zero 31=some [.int .i64 0,.slice none 0 0,.slice none 0 0,.slice none 0 0]:=by kernel_rfl
theorem Tryz.i31:aQ zM 31=true:=by kernel_rfl
theorem Tryz.n31:az zM 31=some false:=by kernel_rfl
theorem Tryz.p31:placesOf zM 31=some [(0,1),(1,1),(2,1),(3,1)]:=by kernel_rfl
theorem Tryz.ff31(b o:Nat)(s:Option Nat):ah zM 31 (.pointer (some ⟨b,o,s⟩)) 0=some (.pointer (some ⟨b,o+0,none⟩))/\ah zM 31 (.pointer (some ⟨b,o,s⟩)) 1=some (.pointer (some ⟨b,o+1,none⟩))/\ah zM 31 (.pointer (some ⟨b,o,s⟩)) 2=some (.pointer (some ⟨b,o+2,none⟩))/\ah zM 31 (.pointer (some ⟨b,o,s⟩)) 3=some (.pointer (some ⟨b,o+3,none⟩)):=⟨rfl,rfl,rfl,rfl⟩
theorem Tryz.d31(x0 x1 x2 x3:Value):ar zM 31 (.agg ⟨[x0,x1,x2,x3]⟩) 0=some x0/\ar zM 31 (.agg ⟨[x0,x1,x2,x3]⟩) 1=some x1/\ar zM 31 (.agg ⟨[x0,x1,x2,x3]⟩) 2=some x2/\ar zM 31 (.agg ⟨[x0,x1,x2,x3]⟩) 3=some x3:=⟨rfl,rfl,rfl,rfl⟩
theorem Tryz.u32:Tryz.abEnv.und 32=some (.pointer 151):=by kernel_rfl
theorem Tryz.a32:Tryz.abEnv.agg 32=some false:=by kernel_rfl
theorem Tryz.s32:Tryz.abEnv.sz 32=some 1:=by kernel_rfl
theorem Tryz.z32:Tryz.abEnv.zero 32=some [.pointer none]:=by kernel_rfl
theorem Tryz.q32:fS zM 32=true:=by kernel_rfl
theorem Tryz.i32:aQ zM 32=true:=by kernel_rfl
theorem Tryz.n32:az zM 32=some false:=by kernel_rfl
theorem Tryz.u33:Tryz.abEnv.und 33=some (.slice 3):=by kernel_rfl
theorem Tryz.a33:Tryz.abEnv.agg 33=some false:=by kernel_rfl
theorem Tryz.s33:Tryz.abEnv.sz 33=some 1:=by kernel_rfl
theorem Tryz.z33:Tryz.abEnv.zero 33=some [.slice none 0 0]:=by kernel_rfl
theorem Tryz.q33:kh zM 33=true:=by kernel_rfl
theorem Tryz.n33:az zM 33=some false:=by kernel_rfl
theorem Tryz.e33E:eB zM 33 24 1 [.slice none 0 0]:=⟨⟨_,rfl,by kernel_rfl,by kernel_rfl⟩,Tryz.z33,rfl⟩
theorem Tryz.u36:Tryz.abEnv.und 36=some (.pointer 38):=by kernel_rfl
theorem Tryz.a36:Tryz.abEnv.agg 36=some false:=by kernel_rfl
theorem Tryz.s36:Tryz.abEnv.sz 36=some 1:=by kernel_rfl
theorem Tryz.z36:Tryz.abEnv.zero 36=some [.pointer none]:=by kernel_rfl
theorem Tryz.q36:fS zM 36=true:=by kernel_rfl
theorem Tryz.i36:aQ zM 36=true:=by kernel_rfl
theorem Tryz.n36:az zM 36=some false:=by kernel_rfl
theorem Tryz.a38:Tryz.abEnv.agg 38=some true:=by kernel_rfl
theorem Tryz.s38:Tryz.abEnv.sz 38=some 2:=by kernel_rfl
theorem Tryz.z38:Tryz.abEnv.zero 38=some [.slice none 0 0,.int .i64 0]:=by kernel_rfl
theorem Tryz.i38:aQ zM 38=true:=by kernel_rfl
theorem Tryz.n38:az zM 38=some false:=by kernel_rfl
theorem Tryz.p38:placesOf zM 38=some [(0,1),(1,1)]:=by kernel_rfl
theorem Tryz.ff38(b o:Nat)(s:Option Nat):ah zM 38 (.pointer (some ⟨b,o,s⟩)) 0=some (.pointer (some ⟨b,o+0,none⟩))/\ah zM 38 (.pointer (some ⟨b,o,s⟩)) 1=some (.pointer (some ⟨b,o+1,none⟩)):=⟨rfl,rfl⟩
theorem Tryz.d38(x0 x1:Value):ar zM 38 (.agg ⟨[x0,x1]⟩) 0=some x0/\ar zM 38 (.agg ⟨[x0,x1]⟩) 1=some x1:=⟨rfl,rfl⟩
theorem Tryz.a41:Tryz.abEnv.agg 41=some false:=by kernel_rfl
theorem Tryz.s41:Tryz.abEnv.sz 41=some 1:=by kernel_rfl
theorem Tryz.z41:Tryz.abEnv.zero 41=some [.nilIface]:=by kernel_rfl
theorem Tryz.q41:isIface zM 41=true:=by kernel_rfl
theorem Tryz.n41:az zM 41=some false:=by kernel_rfl
theorem Tryz.u45:Tryz.abEnv.und 45=some (.int .i64):=by kernel_rfl
theorem Tryz.a45:Tryz.abEnv.agg 45=some false:=by kernel_rfl
theorem Tryz.s45:Tryz.abEnv.sz 45=some 1:=by kernel_rfl
theorem Tryz.z45:Tryz.abEnv.zero 45=some [.int .i64 0]:=by kernel_rfl
theorem Tryz.i45:aQ zM 45=true:=by kernel_rfl
theorem Tryz.a47:Tryz.abEnv.agg 47=some true:=by kernel_rfl
theorem Tryz.s47:Tryz.abEnv.sz 47=some 4:=by kernel_rfl
theorem Tryz.z47:Tryz.abEnv.zero 47=some [.int .i64 0,.int .i64 0,.slice none 0 0,.slice none 0 0]:=by kernel_rfl
theorem Tryz.i47:aQ zM 47=true:=by kernel_rfl
theorem Tryz.n47:az zM 47=some false:=by kernel_rfl
theorem Tryz.p47:placesOf zM 47=some [(0,1),(1,1),(2,1),(3,1)]:=by kernel_rfl
theorem Tryz.ff47(b o:Nat)(s:Option Nat):ah zM 47 (.pointer (some ⟨b,o,s⟩)) 0=some (.pointer (some ⟨b,o+0,none⟩))/\ah zM 47 (.pointer (some ⟨b,o,s⟩)) 1=some (.pointer (some ⟨b,o+1,none⟩))/\ah zM 47 (.pointer (some ⟨b,o,s⟩)) 2=some (.pointer (some ⟨b,o+2,none⟩))/\ah zM 47 (.pointer (some ⟨b,o,s⟩)) 3=some (.pointer (some ⟨b,o+3,none⟩)):=⟨rfl,rfl,rfl,rfl⟩
theorem Tryz.d47(x0 x1 x2 x3:Value):ar zM 47 (.agg ⟨[x0,x1,x2,x3]⟩) 0=some x0/\ar zM 47 (.agg ⟨[x0,x1,x2,x3]⟩) 1=some x1/\ar zM 47 (.agg ⟨[x0,x1,x2,x3]⟩) 2=some x2/\ar zM 47 (.agg ⟨[x0,x1,x2,x3]⟩) 3=some x3:=⟨rfl,rfl,rfl,rfl⟩
theorem Tryz.u48:Tryz.abEnv.und 48=some (.slice 80):=by kernel_rfl
theorem Tryz.a48:Tryz.abEnv.agg 48=some false:=by kernel_rfl
theorem Tryz.s48:Tryz.abEnv.sz 48=some 1:=by kernel_rfl
theorem Tryz.z48:Tryz.abEnv.zero 48=some [.slice none 0 0]:=by kernel_rfl
theorem Tryz.q48:kh zM 48=true:=by kernel_rfl
theorem Tryz.n48:az zM 48=some false:=by kernel_rfl
theorem Tryz.u51:Tryz.abEnv.und 51=some (.pointer 121):=by kernel_rfl
theorem Tryz.a51:Tryz.abEnv.agg 51=some false:=by kernel_rfl
theorem Tryz.s51:Tryz.abEnv.sz 51=some 1:=by kernel_rfl
theorem Tryz.z51:Tryz.abEnv.zero 51=some [.pointer none]:=by kernel_rfl
theorem Tryz.q51:fS zM 51=true:=by kernel_rfl
theorem Tryz.i51:aQ zM 51=true:=by kernel_rfl
theorem Tryz.n51:az zM 51=some false:=by kernel_rfl
theorem Tryz.a80:Tryz.abEnv.agg 80=some true:=by kernel_rfl
theorem Tryz.s80:Tryz.abEnv.sz 80=some 4:=by kernel_rfl
theorem Tryz.z80:Tryz.abEnv.zero 80=some [.int .i64 0,.int .i64 0,.int .i64 0,.int .i64 0]:=by kernel_rfl
theorem Tryz.i80:aQ zM 80=true:=by kernel_rfl
theorem Tryz.n80:az zM 80=some false:=by kernel_rfl
theorem Tryz.p80:placesOf zM 80=some [(0,1),(1,1),(2,1),(3,1)]:=by kernel_rfl
theorem Tryz.ff80(b o:Nat)(s:Option Nat):ah zM 80 (.pointer (some ⟨b,o,s⟩)) 0=some (.pointer (some ⟨b,o+0,none⟩))/\ah zM 80 (.pointer (some ⟨b,o,s⟩)) 1=some (.pointer (some ⟨b,o+1,none⟩))/\ah zM 80 (.pointer (some ⟨b,o,s⟩)) 2=some (.pointer (some ⟨b,o+2,none⟩))/\ah zM 80 (.pointer (some ⟨b,o,s⟩)) 3=some (.pointer (some ⟨b,o+3,none⟩)):=⟨rfl,rfl,rfl,rfl⟩
theorem Tryz.d80(x0 x1 x2 x3:Value):ar zM 80 (.agg ⟨[x0,x1,x2,x3]⟩) 0=some x0/\ar zM 80 (.agg ⟨[x0,x1,x2,x3]⟩) 1=some x1/\ar zM 80 (.agg ⟨[x0,x1,x2,x3]⟩) 2=some x2/\ar zM 80 (.agg ⟨[x0,x1,x2,x3]⟩) 3=some x3:=⟨rfl,rfl,rfl,rfl⟩
theorem Tryz.e80E:eB zM 80 32 4 [.int .i64 0,.int .i64 0,.int .i64 0,.int .i64 0]:=⟨⟨_,rfl,by kernel_rfl,by kernel_rfl⟩,Tryz.z80,rfl⟩
theorem Tryz.a87:Tryz.abEnv.agg 87=some true:=by kernel_rfl
theorem Tryz.s87:Tryz.abEnv.sz 87=some 3:=by kernel_rfl
theorem Tryz.z87:Tryz.abEnv.zero 87=some [.int .i64 0,.int .i64 0,.int .i64 0]:=by kernel_rfl
theorem Tryz.i87:aQ zM 87=true:=by kernel_rfl
theorem Tryz.n87:az zM 87=some false:=by kernel_rfl
theorem Tryz.p87:placesOf zM 87=some [(0,1),(1,1),(2,1)]:=by kernel_rfl
theorem Tryz.ff87(b o:Nat)(s:Option Nat):ah zM 87 (.pointer (some ⟨b,o,s⟩)) 0=some (.pointer (some ⟨b,o+0,none⟩))/\ah zM 87 (.pointer (some ⟨b,o,s⟩)) 1=some (.pointer (some ⟨b,o+1,none⟩))/\ah zM 87 (.pointer (some ⟨b,o,s⟩)) 2=some (.pointer (some ⟨b,o+2,none⟩)):=⟨rfl,rfl,rfl⟩
theorem Tryz.d87(x0 x1 x2:Value):ar zM 87 (.agg ⟨[x0,x1,x2]⟩) 0=some x0/\ar zM 87 (.agg ⟨[x0,x1,x2]⟩) 1=some x1/\ar zM 87 (.agg ⟨[x0,x1,x2]⟩) 2=some x2:=⟨rfl,rfl,rfl⟩
theorem Tryz.e87E:eB zM 87 24 3 [.int .i64 0,.int .i64 0,.int .i64 0]:=⟨⟨_,rfl,by kernel_rfl,by kernel_rfl⟩,Tryz.z87,rfl⟩
theorem Tryz.u114:Tryz.abEnv.und 114=some (.slice 24):=by kernel_rfl
theorem Tryz.a114:Tryz.abEnv.agg 114=some false:=by kernel_rfl
theorem Tryz.s114:Tryz.abEnv.sz 114=some 1:=by kernel_rfl
theorem Tryz.z114:Tryz.abEnv.zero 114=some [.slice none 0 0]:=by kernel_rfl
theorem Tryz.q114:kh zM 114=true:=by kernel_rfl
theorem Tryz.n114:az zM 114=some false:=by kernel_rfl
theorem Tryz.a121:Tryz.abEnv.agg 121=some true:=by kernel_rfl
theorem Tryz.s121:Tryz.abEnv.sz 121=some 4:=by kernel_rfl
theorem Tryz.z121:Tryz.abEnv.zero 121=some [.int .i64 0,.slice none 0 0,.slice none 0 0,.slice none 0 0]:=by kernel_rfl
theorem Tryz.i121:aQ zM 121=true:=by kernel_rfl
theorem Tryz.n121:az zM 121=some false:=by kernel_rfl
theorem Tryz.p121:placesOf zM 121=some [(0,1),(1,1),(2,1),(3,1)]:=by kernel_rfl
theorem Tryz.ff121(b o:Nat)(s:Option Nat):ah zM 121 (.pointer (some ⟨b,o,s⟩)) 0=some (.pointer (some ⟨b,o+0,none⟩))/\ah zM 121 (.pointer (some ⟨b,o,s⟩)) 1=some (.pointer (some ⟨b,o+1,none⟩))/\ah zM 121 (.pointer (some ⟨b,o,s⟩)) 2=some (.pointer (some ⟨b,o+2,none⟩))/\ah zM 121 (.pointer (some ⟨b,o,s⟩)) 3=some (.pointer (some ⟨b,o+3,none⟩)):=⟨rfl,rfl,rfl,rfl⟩
theorem Tryz.d121(x0 x1 x2 x3:Value):ar zM 121 (.agg ⟨[x0,x1,x2,x3]⟩) 0=some x0/\ar zM 121 (.agg ⟨[x0,x1,x2,x3]⟩) 1=some x1/\ar zM 121 (.agg ⟨[x0,x1,x2,x3]⟩) 2=some x2/\ar zM 121 (.agg ⟨[x0,x1,x2,x3]⟩) 3=some x3:=⟨rfl,rfl,rfl,rfl⟩
theorem Tryz.u149:Tryz.abEnv.und 149=some (.slice 33):=by kernel_rfl
theorem Tryz.a149:Tryz.abEnv.agg 149=some false:=by kernel_rfl
theorem Tryz.s149:Tryz.abEnv.sz 149=some 1:=by kernel_rfl
theorem Tryz.z149:Tryz.abEnv.zero 149=some [.slice none 0 0]:=by kernel_rfl
theorem Tryz.q149:kh zM 149=true:=by kernel_rfl
theorem Tryz.n149:az zM 149=some false:=by kernel_rfl
theorem Tryz.a151:Tryz.abEnv.agg 151=some true:=by kernel_rfl
theorem Tryz.s151:Tryz.abEnv.sz 151=some 6:=by kernel_rfl
theorem Tryz.z151:Tryz.abEnv.zero 151=some [.int .i64 0,.slice none 0 0,.slice none 0 0,.slice none 0 0,.slice none 0 0,.slice none 0 0]:=by kernel_rfl
theorem Tryz.i151:aQ zM 151=true:=by kernel_rfl
theorem Tryz.n151:az zM 151=some false:=by kernel_rfl
theorem Tryz.p151:placesOf zM 151=some [(0,4),(4,1),(5,1)]:=by kernel_rfl
theorem Tryz.ff151(b o:Nat)(s:Option Nat):ah zM 151 (.pointer (some ⟨b,o,s⟩)) 0=some (.pointer (some ⟨b,o+0,none⟩))/\ah zM 151 (.pointer (some ⟨b,o,s⟩)) 1=some (.pointer (some ⟨b,o+4,none⟩))/\ah zM 151 (.pointer (some ⟨b,o,s⟩)) 2=some (.pointer (some ⟨b,o+5,none⟩)):=⟨rfl,rfl,rfl⟩
theorem Tryz.d151(x0 x1 x2 x3 x4 x5:Value):ar zM 151 (.agg ⟨[x0,x1,x2,x3,x4,x5]⟩) 0=some (.agg ⟨[x0,x1,x2,x3]⟩)/\ar zM 151 (.agg ⟨[x0,x1,x2,x3,x4,x5]⟩) 1=some x4/\ar zM 151 (.agg ⟨[x0,x1,x2,x3,x4,x5]⟩) 2=some x5:=⟨rfl,rfl,rfl⟩
theorem Tryz.u229:Tryz.abEnv.und 229=some (.int .u8):=by kernel_rfl
theorem Tryz.a229:Tryz.abEnv.agg 229=some false:=by kernel_rfl
theorem Tryz.s229:Tryz.abEnv.sz 229=some 1:=by kernel_rfl
theorem Tryz.z229:Tryz.abEnv.zero 229=some [.int .u8 0]:=by kernel_rfl
theorem Tryz.i229:aQ zM 229=true:=by kernel_rfl
theorem Tryz.u274:Tryz.abEnv.und 274=some (.pointer 5):=by kernel_rfl
theorem Tryz.a274:Tryz.abEnv.agg 274=some false:=by kernel_rfl
theorem Tryz.s274:Tryz.abEnv.sz 274=some 1:=by kernel_rfl
theorem Tryz.z274:Tryz.abEnv.zero 274=some [.pointer none]:=by kernel_rfl
theorem Tryz.q274:fS zM 274=true:=by kernel_rfl
theorem Tryz.i274:aQ zM 274=true:=by kernel_rfl
theorem Tryz.n274:az zM 274=some false:=by kernel_rfl
theorem Tryz.u326:Tryz.abEnv.und 326=some (.int .u32):=by kernel_rfl
theorem Tryz.a326:Tryz.abEnv.agg 326=some false:=by kernel_rfl
theorem Tryz.s326:Tryz.abEnv.sz 326=some 1:=by kernel_rfl
theorem Tryz.z326:Tryz.abEnv.zero 326=some [.int .u32 0]:=by kernel_rfl
theorem Tryz.i326:aQ zM 326=true:=by kernel_rfl
theorem Tryz.a339:Tryz.abEnv.agg 339=some true:=by kernel_rfl
theorem Tryz.s339:Tryz.abEnv.sz 339=some 4:=by kernel_rfl
theorem Tryz.z339:Tryz.abEnv.zero 339=some [.pointer none,.pointer none,.pointer none,.string ⟨#[]⟩]:=by kernel_rfl
theorem Tryz.i339:aQ zM 339=true:=by kernel_rfl
theorem Tryz.n339:az zM 339=some false:=by kernel_rfl
theorem Tryz.p339:placesOf zM 339=some [(0,1),(1,1),(2,1),(3,1)]:=by kernel_rfl
theorem Tryz.ff339(b o:Nat)(s:Option Nat):ah zM 339 (.pointer (some ⟨b,o,s⟩)) 0=some (.pointer (some ⟨b,o+0,none⟩))/\ah zM 339 (.pointer (some ⟨b,o,s⟩)) 1=some (.pointer (some ⟨b,o+1,none⟩))/\ah zM 339 (.pointer (some ⟨b,o,s⟩)) 2=some (.pointer (some ⟨b,o+2,none⟩))/\ah zM 339 (.pointer (some ⟨b,o,s⟩)) 3=some (.pointer (some ⟨b,o+3,none⟩)):=⟨rfl,rfl,rfl,rfl⟩
theorem Tryz.d339(x0 x1 x2 x3:Value):ar zM 339 (.agg ⟨[x0,x1,x2,x3]⟩) 0=some x0/\ar zM 339 (.agg ⟨[x0,x1,x2,x3]⟩) 1=some x1/\ar zM 339 (.agg ⟨[x0,x1,x2,x3]⟩) 2=some x2/\ar zM 339 (.agg ⟨[x0,x1,x2,x3]⟩) 3=some x3:=⟨rfl,rfl,rfl,rfl⟩
theorem Tryz.u340:Tryz.abEnv.und 340=some (.array 0 16):=by kernel_rfl
theorem Tryz.a340:Tryz.abEnv.agg 340=some true:=by kernel_rfl
theorem Tryz.s340:Tryz.abEnv.sz 340=some 0:=by kernel_rfl
theorem Tryz.z340:Tryz.abEnv.zero 340=some []:=by kernel_rfl
theorem Tryz.n340:az zM 340=some false:=by kernel_rfl
theorem Tryz.a342:Tryz.abEnv.agg 342=some true:=by kernel_rfl
theorem Tryz.s342:Tryz.abEnv.sz 342=some 0:=by kernel_rfl
theorem Tryz.z342:Tryz.abEnv.zero 342=some []:=by kernel_rfl
theorem Tryz.i342:aQ zM 342=true:=by kernel_rfl
theorem Tryz.n342:az zM 342=some false:=by kernel_rfl
theorem Tryz.u344:Tryz.abEnv.und 344=some (.int .u8):=by kernel_rfl
theorem Tryz.a344:Tryz.abEnv.agg 344=some false:=by kernel_rfl
theorem Tryz.s344:Tryz.abEnv.sz 344=some 1:=by kernel_rfl
theorem Tryz.z344:Tryz.abEnv.zero 344=some [.int .u8 0]:=by kernel_rfl
theorem Tryz.i344:aQ zM 344=true:=by kernel_rfl
theorem Tryz.a345:Tryz.abEnv.agg 345=some false:=by kernel_rfl
theorem Tryz.s345:Tryz.abEnv.sz 345=some 1:=by kernel_rfl
theorem Tryz.z345:Tryz.abEnv.zero 345=some [.nilFunc]:=by kernel_rfl
theorem Tryz.n345:az zM 345=some false:=by kernel_rfl
theorem Tryz.u346:Tryz.abEnv.und 346=some (.int .i32):=by kernel_rfl
theorem Tryz.a346:Tryz.abEnv.agg 346=some false:=by kernel_rfl
theorem Tryz.s346:Tryz.abEnv.sz 346=some 1:=by kernel_rfl
theorem Tryz.z346:Tryz.abEnv.zero 346=some [.int .i32 0]:=by kernel_rfl
theorem Tryz.i346:aQ zM 346=true:=by kernel_rfl
theorem Tryz.u347:Tryz.abEnv.und 347=some (.int .i32):=by kernel_rfl
theorem Tryz.a347:Tryz.abEnv.agg 347=some false:=by kernel_rfl
theorem Tryz.s347:Tryz.abEnv.sz 347=some 1:=by kernel_rfl
theorem Tryz.z347:Tryz.abEnv.zero 347=some [.int .i32 0]:=by kernel_rfl
theorem Tryz.i347:aQ zM 347=true:=by kernel_rfl
theorem Tryz.a349:Tryz.abEnv.agg 349=some true:=by kernel_rfl
theorem Tryz.s349:Tryz.abEnv.sz 349=some 11:=by kernel_rfl
theorem Tryz.z349:Tryz.abEnv.zero 349=some [.int .u64 0,.int .u64 0,.int .u32 0,.int .u8 0,.int .u8 0,.int .u8 0,.int .u8 0,.nilFunc,.pointer none,.int .i32 0,.int .i32 0]:=by kernel_rfl
theorem Tryz.i349:aQ zM 349=true:=by kernel_rfl
theorem Tryz.n349:az zM 349=some false:=by kernel_rfl
theorem Tryz.p349:placesOf zM 349=some [(0,1),(1,1),(2,1),(3,1),(4,1),(5,1),(6,1),(7,1),(8,1),(9,1),(10,1)]:=by kernel_rfl
theorem Tryz.ff349(b o:Nat)(s:Option Nat):ah zM 349 (.pointer (some ⟨b,o,s⟩)) 0=some (.pointer (some ⟨b,o+0,none⟩))/\ah zM 349 (.pointer (some ⟨b,o,s⟩)) 1=some (.pointer (some ⟨b,o+1,none⟩))/\ah zM 349 (.pointer (some ⟨b,o,s⟩)) 2=some (.pointer (some ⟨b,o+2,none⟩))/\ah zM 349 (.pointer (some ⟨b,o,s⟩)) 3=some (.pointer (some ⟨b,o+3,none⟩))/\ah zM 349 (.pointer (some ⟨b,o,s⟩)) 4=some (.pointer (some ⟨b,o+4,none⟩))/\ah zM 349 (.pointer (some ⟨b,o,s⟩)) 5=some (.pointer (some ⟨b,o+5,none⟩))/\ah zM 349 (.pointer (some ⟨b,o,s⟩)) 6=some (.pointer (some ⟨b,o+6,none⟩))/\ah zM 349 (.pointer (some ⟨b,o,s⟩)) 7=some (.pointer (some ⟨b,o+7,none⟩))/\ah zM 349 (.pointer (some ⟨b,o,s⟩)) 8=some (.pointer (some ⟨b,o+8,none⟩))/\ah zM 349 (.pointer (some ⟨b,o,s⟩)) 9=some (.pointer (some ⟨b,o+9,none⟩))/\ah zM 349 (.pointer (some ⟨b,o,s⟩)) 10=some (.pointer (some ⟨b,o+10,none⟩)):=⟨rfl,rfl,rfl,rfl,rfl,rfl,rfl,rfl,rfl,rfl,rfl⟩
theorem Tryz.d349(x0 x1 x2 x3 x4 x5 x6 x7 x8 x9 x10:Value):ar zM 349 (.agg ⟨[x0,x1,x2,x3,x4,x5,x6,x7,x8,x9,x10]⟩) 0=some x0/\ar zM 349 (.agg ⟨[x0,x1,x2,x3,x4,x5,x6,x7,x8,x9,x10]⟩) 1=some x1/\ar zM 349 (.agg ⟨[x0,x1,x2,x3,x4,x5,x6,x7,x8,x9,x10]⟩) 2=some x2/\ar zM 349 (.agg ⟨[x0,x1,x2,x3,x4,x5,x6,x7,x8,x9,x10]⟩) 3=some x3/\ar zM 349 (.agg ⟨[x0,x1,x2,x3,x4,x5,x6,x7,x8,x9,x10]⟩) 4=some x4/\ar zM 349 (.agg ⟨[x0,x1,x2,x3,x4,x5,x6,x7,x8,x9,x10]⟩) 5=some x5/\ar zM 349 (.agg ⟨[x0,x1,x2,x3,x4,x5,x6,x7,x8,x9,x10]⟩) 6=some x6/\ar zM 349 (.agg ⟨[x0,x1,x2,x3,x4,x5,x6,x7,x8,x9,x10]⟩) 7=some x7/\ar zM 349 (.agg ⟨[x0,x1,x2,x3,x4,x5,x6,x7,x8,x9,x10]⟩) 8=some x8/\ar zM 349 (.agg ⟨[x0,x1,x2,x3,x4,x5,x6,x7,x8,x9,x10]⟩) 9=some x9/\ar zM 349 (.agg ⟨[x0,x1,x2,x3,x4,x5,x6,x7,x8,x9,x10]⟩) 10=some x10:=⟨rfl,rfl,rfl,rfl,rfl,rfl,rfl,rfl,rfl,rfl,rfl⟩
theorem Tryz.e5:Tryz.abEnv.fn 5=some Tryz.f5:=by kernel_rfl
theorem Tryz.u63:Tryz.abEnv.und 63=some (.slice 4):=by kernel_rfl
theorem Tryz.a63:Tryz.abEnv.agg 63=some false:=by kernel_rfl
theorem Tryz.s63:Tryz.abEnv.sz 63=some 1:=by kernel_rfl
theorem Tryz.z63:Tryz.abEnv.zero 63=some [.slice none 0 0]:=by kernel_rfl
theorem Tryz.q63:kh zM 63=true:=by kernel_rfl
theorem Tryz.n63:az zM 63=some false:=by kernel_rfl
theorem Tryz.e10:Tryz.abEnv.fn 10=some Tryz.f10:=by kernel_rfl
theorem Tryz.e11:Tryz.abEnv.fn 11=some Tryz.f11:=by kernel_rfl
theorem Tryz.a90:Tryz.abEnv.agg 90=some true:=by kernel_rfl
theorem Tryz.s90:Tryz.abEnv.sz 90=some 4:=by kernel_rfl
theorem Tryz.z90:Tryz.abEnv.zero 90=some [.int .i64 0,.int .i64 0,.int .i64 0,.int .i64 0]:=by kernel_rfl
theorem Tryz.i90:aQ zM 90=true:=by kernel_rfl
theorem Tryz.n90:az zM 90=some false:=by kernel_rfl
theorem Tryz.p90:placesOf zM 90=some [(0,1),(1,1),(2,1),(3,1)]:=by kernel_rfl
theorem Tryz.ff90(b o:Nat)(s:Option Nat):ah zM 90 (.pointer (some ⟨b,o,s⟩)) 0=some (.pointer (some ⟨b,o+0,none⟩))/\ah zM 90 (.pointer (some ⟨b,o,s⟩)) 1=some (.pointer (some ⟨b,o+1,none⟩))/\ah zM 90 (.pointer (some ⟨b,o,s⟩)) 2=some (.pointer (some ⟨b,o+2,none⟩))/\ah zM 90 (.pointer (some ⟨b,o,s⟩)) 3=some (.pointer (some ⟨b,o+3,none⟩)):=⟨rfl,rfl,rfl,rfl⟩
theorem Tryz.d90(x0 x1 x2 x3:Value):ar zM 90 (.agg ⟨[x0,x1,x2,x3]⟩) 0=some x0/\ar zM 90 (.agg ⟨[x0,x1,x2,x3]⟩) 1=some x1/\ar zM 90 (.agg ⟨[x0,x1,x2,x3]⟩) 2=some x2/\ar zM 90 (.agg ⟨[x0,x1,x2,x3]⟩) 3=some x3:=⟨rfl,rfl,rfl,rfl⟩
theorem Tryz.u92:Tryz.abEnv.und 92=some (.pointer 90):=by kernel_rfl
theorem Tryz.a92:Tryz.abEnv.agg 92=some false:=by kernel_rfl
theorem Tryz.s92:Tryz.abEnv.sz 92=some 1:=by kernel_rfl
theorem Tryz.z92:Tryz.abEnv.zero 92=some [.pointer none]:=by kernel_rfl
theorem Tryz.q92:fS zM 92=true:=by kernel_rfl
theorem Tryz.i92:aQ zM 92=true:=by kernel_rfl
theorem Tryz.n92:az zM 92=some false:=by kernel_rfl
theorem Tryz.a94:Tryz.abEnv.agg 94=some true:=by kernel_rfl
theorem Tryz.s94:Tryz.abEnv.sz 94=some 1:=by kernel_rfl
theorem Tryz.z94:Tryz.abEnv.zero 94=some [.pointer none]:=by kernel_rfl
theorem Tryz.i94:aQ zM 94=true:=by kernel_rfl
theorem Tryz.n94:az zM 94=some false:=by kernel_rfl
theorem Tryz.p94:placesOf zM 94=some [(0,1)]:=by kernel_rfl
theorem Tryz.ff94(b o:Nat)(s:Option Nat):ah zM 94 (.pointer (some ⟨b,o,s⟩)) 0=some (.pointer (some ⟨b,o+0,none⟩)):=rfl
theorem Tryz.d94(x0:Value):ar zM 94 (.agg ⟨[x0]⟩) 0=some x0:=rfl
theorem Tryz.e12:Tryz.abEnv.fn 12=some Tryz.f12:=by kernel_rfl
theorem Tryz.a103:Tryz.abEnv.agg 103=some true:=by kernel_rfl
theorem Tryz.s103:Tryz.abEnv.sz 103=some 3:=by kernel_rfl
theorem Tryz.z103:Tryz.abEnv.zero 103=some [.int .i64 0,.slice none 0 0,.slice none 0 0]:=by kernel_rfl
theorem Tryz.i103:aQ zM 103=true:=by kernel_rfl
theorem Tryz.n103:az zM 103=some false:=by kernel_rfl
theorem Tryz.p103:placesOf zM 103=some [(0,1),(1,1),(2,1)]:=by kernel_rfl
theorem Tryz.ff103(b o:Nat)(s:Option Nat):ah zM 103 (.pointer (some ⟨b,o,s⟩)) 0=some (.pointer (some ⟨b,o+0,none⟩))/\ah zM 103 (.pointer (some ⟨b,o,s⟩)) 1=some (.pointer (some ⟨b,o+1,none⟩))/\ah zM 103 (.pointer (some ⟨b,o,s⟩)) 2=some (.pointer (some ⟨b,o+2,none⟩)):=⟨rfl,rfl,rfl⟩
theorem Tryz.d103(x0 x1 x2:Value):ar zM 103 (.agg ⟨[x0,x1,x2]⟩) 0=some x0/\ar zM 103 (.agg ⟨[x0,x1,x2]⟩) 1=some x1/\ar zM 103 (.agg ⟨[x0,x1,x2]⟩) 2=some x2:=⟨rfl,rfl,rfl⟩
theorem Tryz.a109:Tryz.abEnv.agg 109=some true:=by kernel_rfl
theorem Tryz.s109:Tryz.abEnv.sz 109=some 4:=by kernel_rfl
theorem Tryz.z109:Tryz.abEnv.zero 109=some [.int .i64 0,.int .i64 0,.slice none 0 0,.slice none 0 0]:=by kernel_rfl
theorem Tryz.i109:aQ zM 109=true:=by kernel_rfl
theorem Tryz.n109:az zM 109=some false:=by kernel_rfl
theorem Tryz.p109:placesOf zM 109=some [(0,1),(1,1),(2,1),(3,1)]:=by kernel_rfl
theorem Tryz.ff109(b o:Nat)(s:Option Nat):ah zM 109 (.pointer (some ⟨b,o,s⟩)) 0=some (.pointer (some ⟨b,o+0,none⟩))/\ah zM 109 (.pointer (some ⟨b,o,s⟩)) 1=some (.pointer (some ⟨b,o+1,none⟩))/\ah zM 109 (.pointer (some ⟨b,o,s⟩)) 2=some (.pointer (some ⟨b,o+2,none⟩))/\ah zM 109 (.pointer (some ⟨b,o,s⟩)) 3=some (.pointer (some ⟨b,o+3,none⟩)):=⟨rfl,rfl,rfl,rfl⟩
theorem Tryz.d109(x0 x1 x2 x3:Value):ar zM 109 (.agg ⟨[x0,x1,x2,x3]⟩) 0=some x0/\ar zM 109 (.agg ⟨[x0,x1,x2,x3]⟩) 1=some x1/\ar zM 109 (.agg ⟨[x0,x1,x2,x3]⟩) 2=some x2/\ar zM 109 (.agg ⟨[x0,x1,x2,x3]⟩) 3=some x3:=⟨rfl,rfl,rfl,rfl⟩
theorem Tryz.e13:Tryz.abEnv.fn 13=some Tryz.f13:=by kernel_rfl
theorem Tryz.a117:Tryz.abEnv.agg 117=some false:=by kernel_rfl
theorem Tryz.s117:Tryz.abEnv.sz 117=some 1:=by kernel_rfl
theorem Tryz.z117:Tryz.abEnv.zero 117=some [.nilFunc]:=by kernel_rfl
theorem Tryz.n117:az zM 117=some false:=by kernel_rfl
theorem Tryz.a119:Tryz.abEnv.agg 119=some false:=by kernel_rfl
theorem Tryz.s119:Tryz.abEnv.sz 119=some 1:=by kernel_rfl
theorem Tryz.z119:Tryz.abEnv.zero 119=some [.nilFunc]:=by kernel_rfl
theorem Tryz.n119:az zM 119=some false:=by kernel_rfl
theorem Tryz.e14:Tryz.abEnv.fn 14=some Tryz.f14:=by kernel_rfl
theorem Tryz.e17:Tryz.abEnv.fn 17=some Tryz.f17:=by kernel_rfl
theorem Tryz.e18:Tryz.abEnv.fn 18=some Tryz.f18:=by kernel_rfl
theorem Tryz.a125:Tryz.abEnv.agg 125=some false:=by kernel_rfl
theorem Tryz.s125:Tryz.abEnv.sz 125=some 1:=by kernel_rfl
theorem Tryz.z125:Tryz.abEnv.zero 125=some [.nilFunc]:=by kernel_rfl
theorem Tryz.n125:az zM 125=some false:=by kernel_rfl
theorem Tryz.e19:Tryz.abEnv.fn 19=some Tryz.f19:=by kernel_rfl
theorem Tryz.e26:Tryz.abEnv.fn 26=some Tryz.f26:=by kernel_rfl
theorem Tryz.e29:Tryz.abEnv.fn 29=some Tryz.f29:=by kernel_rfl
theorem Tryz.e30:Tryz.abEnv.fn 30=some Tryz.f30:=by kernel_rfl
theorem Tryz.e31:Tryz.abEnv.fn 31=some Tryz.f31:=by kernel_rfl
theorem Tryz.a152:Tryz.abEnv.agg 152=some false:=by kernel_rfl
theorem Tryz.s152:Tryz.abEnv.sz 152=some 1:=by kernel_rfl
theorem Tryz.z152:Tryz.abEnv.zero 152=some [.nilFunc]:=by kernel_rfl
theorem Tryz.n152:az zM 152=some false:=by kernel_rfl
theorem Tryz.a153:Tryz.abEnv.agg 153=some false:=by kernel_rfl
theorem Tryz.s153:Tryz.abEnv.sz 153=some 1:=by kernel_rfl
theorem Tryz.z153:Tryz.abEnv.zero 153=some [.nilFunc]:=by kernel_rfl
theorem Tryz.n153:az zM 153=some false:=by kernel_rfl
theorem Tryz.e33:Tryz.abEnv.fn 33=some Tryz.f33:=by kernel_rfl
theorem Tryz.e34:Tryz.abEnv.fn 34=some Tryz.f34:=by kernel_rfl
theorem Tryz.a98:Tryz.abEnv.agg 98=some true:=by kernel_rfl
theorem Tryz.s98:Tryz.abEnv.sz 98=some 1:=by kernel_rfl
theorem Tryz.z98:Tryz.abEnv.zero 98=some [.int .i64 0]:=by kernel_rfl
theorem Tryz.i98:aQ zM 98=true:=by kernel_rfl
theorem Tryz.n98:az zM 98=some false:=by kernel_rfl
theorem Tryz.p98:placesOf zM 98=some [(0,1)]:=by kernel_rfl
theorem Tryz.ff98(b o:Nat)(s:Option Nat):ah zM 98 (.pointer (some ⟨b,o,s⟩)) 0=some (.pointer (some ⟨b,o+0,none⟩)):=rfl
theorem Tryz.d98(x0:Value):ar zM 98 (.agg ⟨[x0]⟩) 0=some x0:=rfl
theorem Tryz.e35:Tryz.abEnv.fn 35=some Tryz.f35:=by kernel_rfl
theorem Tryz.a156:Tryz.abEnv.agg 156=some false:=by kernel_rfl
theorem Tryz.s156:Tryz.abEnv.sz 156=some 1:=by kernel_rfl
theorem Tryz.z156:Tryz.abEnv.zero 156=some [.nilFunc]:=by kernel_rfl
theorem Tryz.n156:az zM 156=some false:=by kernel_rfl
theorem Tryz.u158:Tryz.abEnv.und 158=some (.array 4 1):=by kernel_rfl
theorem Tryz.a158:Tryz.abEnv.agg 158=some true:=by kernel_rfl
theorem Tryz.s158:Tryz.abEnv.sz 158=some 4:=by kernel_rfl
theorem Tryz.z158:Tryz.abEnv.zero 158=some [.nilFunc,.nilFunc,.nilFunc,.nilFunc]:=by kernel_rfl
theorem Tryz.n158:az zM 158=some false:=by kernel_rfl
theorem Tryz.e36:Tryz.abEnv.fn 36=some Tryz.f36:=by kernel_rfl
theorem Tryz.a161:Tryz.abEnv.agg 161=some false:=by kernel_rfl
theorem Tryz.s161:Tryz.abEnv.sz 161=some 1:=by kernel_rfl
theorem Tryz.z161:Tryz.abEnv.zero 161=some [.nilFunc]:=by kernel_rfl
theorem Tryz.n161:az zM 161=some false:=by kernel_rfl
theorem Tryz.e37:Tryz.abEnv.fn 37=some Tryz.f37:=by kernel_rfl
theorem Tryz.e38:Tryz.abEnv.fn 38=some Tryz.f38:=by kernel_rfl
theorem Tryz.u163:Tryz.abEnv.und 163=some (.pointer 167):=by kernel_rfl
theorem Tryz.a163:Tryz.abEnv.agg 163=some false:=by kernel_rfl
theorem Tryz.s163:Tryz.abEnv.sz 163=some 1:=by kernel_rfl
theorem Tryz.z163:Tryz.abEnv.zero 163=some [.pointer none]:=by kernel_rfl
theorem Tryz.q163:fS zM 163=true:=by kernel_rfl
theorem Tryz.i163:aQ zM 163=true:=by kernel_rfl
theorem Tryz.n163:az zM 163=some false:=by kernel_rfl
theorem Tryz.u164:Tryz.abEnv.und 164=some (.pointer 240):=by kernel_rfl
theorem Tryz.a164:Tryz.abEnv.agg 164=some false:=by kernel_rfl
theorem Tryz.s164:Tryz.abEnv.sz 164=some 1:=by kernel_rfl
theorem Tryz.z164:Tryz.abEnv.zero 164=some [.pointer none]:=by kernel_rfl
theorem Tryz.q164:fS zM 164=true:=by kernel_rfl
theorem Tryz.i164:aQ zM 164=true:=by kernel_rfl
theorem Tryz.n164:az zM 164=some false:=by kernel_rfl
theorem Tryz.u165:Tryz.abEnv.und 165=some (.array 2 164):=by kernel_rfl
theorem Tryz.a165:Tryz.abEnv.agg 165=some true:=by kernel_rfl
theorem Tryz.s165:Tryz.abEnv.sz 165=some 2:=by kernel_rfl
theorem Tryz.z165:Tryz.abEnv.zero 165=some [.pointer none,.pointer none]:=by kernel_rfl
theorem Tryz.n165:az zM 165=some false:=by kernel_rfl
theorem Tryz.a167:Tryz.abEnv.agg 167=some true:=by kernel_rfl
theorem Tryz.s167:Tryz.abEnv.sz 167=some 11:=by kernel_rfl
theorem Tryz.z167:Tryz.abEnv.zero 167=some [.pointer none,.int .i64 0,.int .i64 0,.slice none 0 0,.slice none 0 0,.pointer none,.pointer none,.int .i64 0,.slice none 0 0,.slice none 0 0,.int .i64 0]:=by kernel_rfl
theorem Tryz.i167:aQ zM 167=true:=by kernel_rfl
theorem Tryz.n167:az zM 167=some false:=by kernel_rfl
theorem Tryz.p167:placesOf zM 167=some [(0,1),(1,4),(5,2),(7,3),(10,1)]:=by kernel_rfl
theorem Tryz.ff167(b o:Nat)(s:Option Nat):ah zM 167 (.pointer (some ⟨b,o,s⟩)) 0=some (.pointer (some ⟨b,o+0,none⟩))/\ah zM 167 (.pointer (some ⟨b,o,s⟩)) 1=some (.pointer (some ⟨b,o+1,none⟩))/\ah zM 167 (.pointer (some ⟨b,o,s⟩)) 2=some (.pointer (some ⟨b,o+5,none⟩))/\ah zM 167 (.pointer (some ⟨b,o,s⟩)) 3=some (.pointer (some ⟨b,o+7,none⟩))/\ah zM 167 (.pointer (some ⟨b,o,s⟩)) 4=some (.pointer (some ⟨b,o+10,none⟩)):=⟨rfl,rfl,rfl,rfl,rfl⟩
theorem Tryz.d167(x0 x1 x2 x3 x4 x5 x6 x7 x8 x9 x10:Value):ar zM 167 (.agg ⟨[x0,x1,x2,x3,x4,x5,x6,x7,x8,x9,x10]⟩) 0=some x0/\ar zM 167 (.agg ⟨[x0,x1,x2,x3,x4,x5,x6,x7,x8,x9,x10]⟩) 1=some (.agg ⟨[x1,x2,x3,x4]⟩)/\ar zM 167 (.agg ⟨[x0,x1,x2,x3,x4,x5,x6,x7,x8,x9,x10]⟩) 2=some (.agg ⟨[x5,x6]⟩)/\ar zM 167 (.agg ⟨[x0,x1,x2,x3,x4,x5,x6,x7,x8,x9,x10]⟩) 3=some (.agg ⟨[x7,x8,x9]⟩)/\ar zM 167 (.agg ⟨[x0,x1,x2,x3,x4,x5,x6,x7,x8,x9,x10]⟩) 4=some x10:=⟨rfl,rfl,rfl,rfl,rfl⟩
theorem Tryz.a169:Tryz.abEnv.agg 169=some false:=by kernel_rfl
theorem Tryz.s169:Tryz.abEnv.sz 169=some 1:=by kernel_rfl
theorem Tryz.z169:Tryz.abEnv.zero 169=some [.nilFunc]:=by kernel_rfl
theorem Tryz.n169:az zM 169=some false:=by kernel_rfl
theorem Tryz.u182:Tryz.abEnv.und 182=some (.map 3 3):=by kernel_rfl
theorem Tryz.a182:Tryz.abEnv.agg 182=some false:=by kernel_rfl
theorem Tryz.s182:Tryz.abEnv.sz 182=some 1:=by kernel_rfl
theorem Tryz.z182:Tryz.abEnv.zero 182=some [.map none]:=by kernel_rfl
theorem Tryz.n182:az zM 182=some false:=by kernel_rfl
theorem Tryz.u236:Tryz.abEnv.und 236=some (.pointer 307):=by kernel_rfl
theorem Tryz.a236:Tryz.abEnv.agg 236=some false:=by kernel_rfl
theorem Tryz.s236:Tryz.abEnv.sz 236=some 1:=by kernel_rfl
theorem Tryz.z236:Tryz.abEnv.zero 236=some [.pointer none]:=by kernel_rfl
theorem Tryz.q236:fS zM 236=true:=by kernel_rfl
theorem Tryz.i236:aQ zM 236=true:=by kernel_rfl
theorem Tryz.n236:az zM 236=some false:=by kernel_rfl
theorem Tryz.u238:Tryz.abEnv.und 238=some (.map 3 2):=by kernel_rfl
theorem Tryz.a238:Tryz.abEnv.agg 238=some false:=by kernel_rfl
theorem Tryz.s238:Tryz.abEnv.sz 238=some 1:=by kernel_rfl
theorem Tryz.z238:Tryz.abEnv.zero 238=some [.map none]:=by kernel_rfl
theorem Tryz.n238:az zM 238=some false:=by kernel_rfl
theorem Tryz.a240:Tryz.abEnv.agg 240=some true:=by kernel_rfl
theorem Tryz.s240:Tryz.abEnv.sz 240=some 8:=by kernel_rfl
theorem Tryz.z240:Tryz.abEnv.zero 240=some [.pointer none,.int .i64 0,.int .i64 0,.nilFunc,.nilFunc,.map none,.map none,.map none]:=by kernel_rfl
theorem Tryz.i240:aQ zM 240=true:=by kernel_rfl
theorem Tryz.n240:az zM 240=some false:=by kernel_rfl
theorem Tryz.p240:placesOf zM 240=some [(0,1),(1,1),(2,1),(3,1),(4,1),(5,1),(6,1),(7,1)]:=by kernel_rfl
theorem Tryz.ff240(b o:Nat)(s:Option Nat):ah zM 240 (.pointer (some ⟨b,o,s⟩)) 0=some (.pointer (some ⟨b,o+0,none⟩))/\ah zM 240 (.pointer (some ⟨b,o,s⟩)) 1=some (.pointer (some ⟨b,o+1,none⟩))/\ah zM 240 (.pointer (some ⟨b,o,s⟩)) 2=some (.pointer (some ⟨b,o+2,none⟩))/\ah zM 240 (.pointer (some ⟨b,o,s⟩)) 3=some (.pointer (some ⟨b,o+3,none⟩))/\ah zM 240 (.pointer (some ⟨b,o,s⟩)) 4=some (.pointer (some ⟨b,o+4,none⟩))/\ah zM 240 (.pointer (some ⟨b,o,s⟩)) 5=some (.pointer (some ⟨b,o+5,none⟩))/\ah zM 240 (.pointer (some ⟨b,o,s⟩)) 6=some (.pointer (some ⟨b,o+6,none⟩))/\ah zM 240 (.pointer (some ⟨b,o,s⟩)) 7=some (.pointer (some ⟨b,o+7,none⟩)):=⟨rfl,rfl,rfl,rfl,rfl,rfl,rfl,rfl⟩
theorem Tryz.d240(x0 x1 x2 x3 x4 x5 x6 x7:Value):ar zM 240 (.agg ⟨[x0,x1,x2,x3,x4,x5,x6,x7]⟩) 0=some x0/\ar zM 240 (.agg ⟨[x0,x1,x2,x3,x4,x5,x6,x7]⟩) 1=some x1/\ar zM 240 (.agg ⟨[x0,x1,x2,x3,x4,x5,x6,x7]⟩) 2=some x2/\ar zM 240 (.agg ⟨[x0,x1,x2,x3,x4,x5,x6,x7]⟩) 3=some x3/\ar zM 240 (.agg ⟨[x0,x1,x2,x3,x4,x5,x6,x7]⟩) 4=some x4/\ar zM 240 (.agg ⟨[x0,x1,x2,x3,x4,x5,x6,x7]⟩) 5=some x5/\ar zM 240 (.agg ⟨[x0,x1,x2,x3,x4,x5,x6,x7]⟩) 6=some x6/\ar zM 240 (.agg ⟨[x0,x1,x2,x3,x4,x5,x6,x7]⟩) 7=some x7:=⟨rfl,rfl,rfl,rfl,rfl,rfl,rfl,rfl⟩
theorem Tryz.e39:Tryz.abEnv.fn 39=some Tryz.f39:=by kernel_rfl
theorem Tryz.a178:Tryz.abEnv.agg 178=some false:=by kernel_rfl
theorem Tryz.s178:Tryz.abEnv.sz 178=some 1:=by kernel_rfl
theorem Tryz.z178:Tryz.abEnv.zero 178=some [.nilFunc]:=by kernel_rfl
theorem Tryz.n178:az zM 178=some false:=by kernel_rfl
theorem Tryz.a181:Tryz.abEnv.agg 181=some false:=by kernel_rfl
theorem Tryz.s181:Tryz.abEnv.sz 181=some 1:=by kernel_rfl
theorem Tryz.z181:Tryz.abEnv.zero 181=some [.nilFunc]:=by kernel_rfl
theorem Tryz.n181:az zM 181=some false:=by kernel_rfl
theorem Tryz.e40:Tryz.abEnv.fn 40=some Tryz.f40:=by kernel_rfl
theorem Tryz.e41:Tryz.abEnv.fn 41=some Tryz.f41:=by kernel_rfl
theorem Tryz.e42:Tryz.abEnv.fn 42=some Tryz.f42:=by kernel_rfl
theorem Tryz.e43:Tryz.abEnv.fn 43=some Tryz.f43:=by kernel_rfl
theorem Tryz.e44:Tryz.abEnv.fn 44=some Tryz.f44:=by kernel_rfl
theorem Tryz.e45:Tryz.abEnv.fn 45=some Tryz.f45:=by kernel_rfl
theorem Tryz.e46:Tryz.abEnv.fn 46=some Tryz.f46:=by kernel_rfl
theorem Tryz.a187:Tryz.abEnv.agg 187=some true:=by kernel_rfl
theorem Tryz.s187:Tryz.abEnv.sz 187=some 3:=by kernel_rfl
theorem Tryz.z187:Tryz.abEnv.zero 187=some [.slice none 0 0,.slice none 0 0,.slice none 0 0]:=by kernel_rfl
theorem Tryz.i187:aQ zM 187=true:=by kernel_rfl
theorem Tryz.n187:az zM 187=some false:=by kernel_rfl
theorem Tryz.p187:placesOf zM 187=some [(0,1),(1,1),(2,1)]:=by kernel_rfl
theorem Tryz.ff187(b o:Nat)(s:Option Nat):ah zM 187 (.pointer (some ⟨b,o,s⟩)) 0=some (.pointer (some ⟨b,o+0,none⟩))/\ah zM 187 (.pointer (some ⟨b,o,s⟩)) 1=some (.pointer (some ⟨b,o+1,none⟩))/\ah zM 187 (.pointer (some ⟨b,o,s⟩)) 2=some (.pointer (some ⟨b,o+2,none⟩)):=⟨rfl,rfl,rfl⟩
theorem Tryz.d187(x0 x1 x2:Value):ar zM 187 (.agg ⟨[x0,x1,x2]⟩) 0=some x0/\ar zM 187 (.agg ⟨[x0,x1,x2]⟩) 1=some x1/\ar zM 187 (.agg ⟨[x0,x1,x2]⟩) 2=some x2:=⟨rfl,rfl,rfl⟩
theorem Tryz.e47:Tryz.abEnv.fn 47=some Tryz.f47:=by kernel_rfl
theorem Tryz.e48:Tryz.abEnv.fn 48=some Tryz.f48:=by kernel_rfl
theorem Tryz.e51:Tryz.abEnv.fn 51=some Tryz.f51:=by kernel_rfl
theorem Tryz.a201:Tryz.abEnv.agg 201=some false:=by kernel_rfl
theorem Tryz.s201:Tryz.abEnv.sz 201=some 1:=by kernel_rfl
theorem Tryz.z201:Tryz.abEnv.zero 201=some [.nilFunc]:=by kernel_rfl
theorem Tryz.n201:az zM 201=some false:=by kernel_rfl
theorem Tryz.a180:Tryz.abEnv.agg 180=some false:=by kernel_rfl
theorem Tryz.s180:Tryz.abEnv.sz 180=some 1:=by kernel_rfl
theorem Tryz.z180:Tryz.abEnv.zero 180=some [.nilFunc]:=by kernel_rfl
theorem Tryz.n180:az zM 180=some false:=by kernel_rfl
theorem Tryz.a212:Tryz.abEnv.agg 212=some false:=by kernel_rfl
theorem Tryz.s212:Tryz.abEnv.sz 212=some 1:=by kernel_rfl
theorem Tryz.z212:Tryz.abEnv.zero 212=some [.nilFunc]:=by kernel_rfl
theorem Tryz.n212:az zM 212=some false:=by kernel_rfl
theorem Tryz.e64:Tryz.abEnv.fn 64=some Tryz.f64:=by kernel_rfl
theorem Tryz.a143:Tryz.abEnv.agg 143=some true:=by kernel_rfl
theorem Tryz.s143:Tryz.abEnv.sz 143=some 1:=by kernel_rfl
theorem Tryz.z143:Tryz.abEnv.zero 143=some [.pointer none]:=by kernel_rfl
theorem Tryz.i143:aQ zM 143=true:=by kernel_rfl
theorem Tryz.n143:az zM 143=some false:=by kernel_rfl
theorem Tryz.p143:placesOf zM 143=some [(0,1)]:=by kernel_rfl
theorem Tryz.ff143(b o:Nat)(s:Option Nat):ah zM 143 (.pointer (some ⟨b,o,s⟩)) 0=some (.pointer (some ⟨b,o+0,none⟩)):=rfl
theorem Tryz.d143(x0:Value):ar zM 143 (.agg ⟨[x0]⟩) 0=some x0:=rfl
theorem Tryz.e65:Tryz.abEnv.fn 65=some Tryz.f65:=by kernel_rfl
theorem Tryz.a214:Tryz.abEnv.agg 214=some false:=by kernel_rfl
theorem Tryz.s214:Tryz.abEnv.sz 214=some 1:=by kernel_rfl
theorem Tryz.z214:Tryz.abEnv.zero 214=some [.nilFunc]:=by kernel_rfl
theorem Tryz.n214:az zM 214=some false:=by kernel_rfl
theorem Tryz.a216:Tryz.abEnv.agg 216=some false:=by kernel_rfl
theorem Tryz.s216:Tryz.abEnv.sz 216=some 1:=by kernel_rfl
theorem Tryz.z216:Tryz.abEnv.zero 216=some [.nilFunc]:=by kernel_rfl
theorem Tryz.n216:az zM 216=some false:=by kernel_rfl
theorem Tryz.e216E:eB zM 216 8 1 [.nilFunc]:=⟨⟨_,rfl,by kernel_rfl,by kernel_rfl⟩,Tryz.z216,rfl⟩
theorem Tryz.u218:Tryz.abEnv.und 218=some (.slice 216):=by kernel_rfl
theorem Tryz.a218:Tryz.abEnv.agg 218=some false:=by kernel_rfl
theorem Tryz.s218:Tryz.abEnv.sz 218=some 1:=by kernel_rfl
theorem Tryz.z218:Tryz.abEnv.zero 218=some [.slice none 0 0]:=by kernel_rfl
theorem Tryz.q218:kh zM 218=true:=by kernel_rfl
theorem Tryz.n218:az zM 218=some false:=by kernel_rfl
theorem Tryz.a220:Tryz.abEnv.agg 220=some true:=by kernel_rfl
theorem Tryz.s220:Tryz.abEnv.sz 220=some 6:=by kernel_rfl
theorem Tryz.z220:Tryz.abEnv.zero 220=some [.int .i64 0,.int .i64 0,.int .i64 0,.int .i64 0,.int .i64 0,.int .i64 0]:=by kernel_rfl
theorem Tryz.i220:aQ zM 220=true:=by kernel_rfl
theorem Tryz.n220:az zM 220=some false:=by kernel_rfl
theorem Tryz.p220:placesOf zM 220=some [(0,1),(1,1),(2,1),(3,1),(4,1),(5,1)]:=by kernel_rfl
theorem Tryz.ff220(b o:Nat)(s:Option Nat):ah zM 220 (.pointer (some ⟨b,o,s⟩)) 0=some (.pointer (some ⟨b,o+0,none⟩))/\ah zM 220 (.pointer (some ⟨b,o,s⟩)) 1=some (.pointer (some ⟨b,o+1,none⟩))/\ah zM 220 (.pointer (some ⟨b,o,s⟩)) 2=some (.pointer (some ⟨b,o+2,none⟩))/\ah zM 220 (.pointer (some ⟨b,o,s⟩)) 3=some (.pointer (some ⟨b,o+3,none⟩))/\ah zM 220 (.pointer (some ⟨b,o,s⟩)) 4=some (.pointer (some ⟨b,o+4,none⟩))/\ah zM 220 (.pointer (some ⟨b,o,s⟩)) 5=some (.pointer (some ⟨b,o+5,none⟩)):=⟨rfl,rfl,rfl,rfl,rfl,rfl⟩
theorem Tryz.d220(x0 x1 x2 x3 x4 x5:Value):ar zM 220 (.agg ⟨[x0,x1,x2,x3,x4,x5]⟩) 0=some x0/\ar zM 220 (.agg ⟨[x0,x1,x2,x3,x4,x5]⟩) 1=some x1/\ar zM 220 (.agg ⟨[x0,x1,x2,x3,x4,x5]⟩) 2=some x2/\ar zM 220 (.agg ⟨[x0,x1,x2,x3,x4,x5]⟩) 3=some x3/\ar zM 220 (.agg ⟨[x0,x1,x2,x3,x4,x5]⟩) 4=some x4/\ar zM 220 (.agg ⟨[x0,x1,x2,x3,x4,x5]⟩) 5=some x5:=⟨rfl,rfl,rfl,rfl,rfl,rfl⟩
theorem Tryz.e220E:eB zM 220 48 6 [.int .i64 0,.int .i64 0,.int .i64 0,.int .i64 0,.int .i64 0,.int .i64 0]:=⟨⟨_,rfl,by kernel_rfl,by kernel_rfl⟩,Tryz.z220,rfl⟩
theorem Tryz.e66:Tryz.abEnv.fn 66=some Tryz.f66:=by kernel_rfl
theorem Tryz.e68:Tryz.abEnv.fn 68=some Tryz.f68:=by kernel_rfl
theorem Tryz.e69:Tryz.abEnv.fn 69=some Tryz.f69:=by kernel_rfl
theorem Tryz.e70:Tryz.abEnv.fn 70=some Tryz.f70:=by kernel_rfl
theorem Tryz.e71:Tryz.abEnv.fn 71=some Tryz.f71:=by kernel_rfl
theorem Tryz.e72:Tryz.abEnv.fn 72=some Tryz.f72:=by kernel_rfl
theorem Tryz.e73:Tryz.abEnv.fn 73=some Tryz.f73:=by kernel_rfl
theorem Tryz.e74:Tryz.abEnv.fn 74=some Tryz.f74:=by kernel_rfl
theorem Tryz.e75:Tryz.abEnv.fn 75=some Tryz.f75:=by kernel_rfl
theorem Tryz.e76:Tryz.abEnv.fn 76=some Tryz.f76:=by kernel_rfl
theorem Tryz.e77:Tryz.abEnv.fn 77=some Tryz.f77:=by kernel_rfl
theorem Tryz.e78:Tryz.abEnv.fn 78=some Tryz.f78:=by kernel_rfl
theorem Tryz.e79:Tryz.abEnv.fn 79=some Tryz.f79:=by kernel_rfl
theorem Tryz.e80:Tryz.abEnv.fn 80=some Tryz.f80:=by kernel_rfl
theorem Tryz.e81:Tryz.abEnv.fn 81=some Tryz.f81:=by kernel_rfl
theorem Tryz.e82:Tryz.abEnv.fn 82=some Tryz.f82:=by kernel_rfl
theorem Tryz.a235:Tryz.abEnv.agg 235=some false:=by kernel_rfl
theorem Tryz.s235:Tryz.abEnv.sz 235=some 1:=by kernel_rfl
theorem Tryz.z235:Tryz.abEnv.zero 235=some [.nilFunc]:=by kernel_rfl
theorem Tryz.n235:az zM 235=some false:=by kernel_rfl
theorem Tryz.e83:Tryz.abEnv.fn 83=some Tryz.f83:=by kernel_rfl
theorem Tryz.a305:Tryz.abEnv.agg 305=some true:=by kernel_rfl
theorem Tryz.s305:Tryz.abEnv.sz 305=some 2:=by kernel_rfl
theorem Tryz.z305:Tryz.abEnv.zero 305=some [.slice none 0 0,.map none]:=by kernel_rfl
theorem Tryz.i305:aQ zM 305=true:=by kernel_rfl
theorem Tryz.n305:az zM 305=some false:=by kernel_rfl
theorem Tryz.p305:placesOf zM 305=some [(0,1),(1,1)]:=by kernel_rfl
theorem Tryz.ff305(b o:Nat)(s:Option Nat):ah zM 305 (.pointer (some ⟨b,o,s⟩)) 0=some (.pointer (some ⟨b,o+0,none⟩))/\ah zM 305 (.pointer (some ⟨b,o,s⟩)) 1=some (.pointer (some ⟨b,o+1,none⟩)):=⟨rfl,rfl⟩
theorem Tryz.d305(x0 x1:Value):ar zM 305 (.agg ⟨[x0,x1]⟩) 0=some x0/\ar zM 305 (.agg ⟨[x0,x1]⟩) 1=some x1:=⟨rfl,rfl⟩
theorem Tryz.a307:Tryz.abEnv.agg 307=some true:=by kernel_rfl
theorem Tryz.s307:Tryz.abEnv.sz 307=some 3:=by kernel_rfl
theorem Tryz.z307:Tryz.abEnv.zero 307=some [.slice none 0 0,.map none,.int .i64 0]:=by kernel_rfl
theorem Tryz.i307:aQ zM 307=true:=by kernel_rfl
theorem Tryz.n307:az zM 307=some false:=by kernel_rfl
theorem Tryz.p307:placesOf zM 307=some [(0,2),(2,1)]:=by kernel_rfl
theorem Tryz.ff307(b o:Nat)(s:Option Nat):ah zM 307 (.pointer (some ⟨b,o,s⟩)) 0=some (.pointer (some ⟨b,o+0,none⟩))/\ah zM 307 (.pointer (some ⟨b,o,s⟩)) 1=some (.pointer (some ⟨b,o+2,none⟩)):=⟨rfl,rfl⟩
theorem Tryz.d307(x0 x1 x2:Value):ar zM 307 (.agg ⟨[x0,x1,x2]⟩) 0=some (.agg ⟨[x0,x1]⟩)/\ar zM 307 (.agg ⟨[x0,x1,x2]⟩) 1=some x2:=⟨rfl,rfl⟩
theorem Tryz.e84:Tryz.abEnv.fn 84=some Tryz.f84:=by kernel_rfl
theorem Tryz.e85:Tryz.abEnv.fn 85=some Tryz.f85:=by kernel_rfl
theorem Tryz.e86:Tryz.abEnv.fn 86=some Tryz.f86:=by kernel_rfl
theorem Tryz.e87:Tryz.abEnv.fn 87=some Tryz.f87:=by kernel_rfl
theorem Tryz.e88:Tryz.abEnv.fn 88=some Tryz.f88:=by kernel_rfl
theorem Tryz.e89:Tryz.abEnv.fn 89=some Tryz.f89:=by kernel_rfl
theorem Tryz.e90:Tryz.abEnv.fn 90=some Tryz.f90:=by kernel_rfl
theorem Tryz.e91:Tryz.abEnv.fn 91=some Tryz.f91:=by kernel_rfl
theorem Tryz.a251:Tryz.abEnv.agg 251=some false:=by kernel_rfl
theorem Tryz.s251:Tryz.abEnv.sz 251=some 1:=by kernel_rfl
theorem Tryz.z251:Tryz.abEnv.zero 251=some [.nilFunc]:=by kernel_rfl
theorem Tryz.n251:az zM 251=some false:=by kernel_rfl
theorem Tryz.e92:Tryz.abEnv.fn 92=some Tryz.f92:=by kernel_rfl
theorem Tryz.e93:Tryz.abEnv.fn 93=some Tryz.f93:=by kernel_rfl
theorem Tryz.e94:Tryz.abEnv.fn 94=some Tryz.f94:=by kernel_rfl
theorem Tryz.e95:Tryz.abEnv.fn 95=some Tryz.f95:=by kernel_rfl
theorem Tryz.e96:Tryz.abEnv.fn 96=some Tryz.f96:=by kernel_rfl
theorem Tryz.e97:Tryz.abEnv.fn 97=some Tryz.f97:=by kernel_rfl
theorem Tryz.e98:Tryz.abEnv.fn 98=some Tryz.f98:=by kernel_rfl
theorem Tryz.e99:Tryz.abEnv.fn 99=some Tryz.f99:=by kernel_rfl
theorem Tryz.e100:Tryz.abEnv.fn 100=some Tryz.f100:=by kernel_rfl
theorem Tryz.e101:Tryz.abEnv.fn 101=some Tryz.f101:=by kernel_rfl
theorem Tryz.a185:Tryz.abEnv.agg 185=some false:=by kernel_rfl
theorem Tryz.s185:Tryz.abEnv.sz 185=some 1:=by kernel_rfl
theorem Tryz.z185:Tryz.abEnv.zero 185=some [.nilFunc]:=by kernel_rfl
theorem Tryz.n185:az zM 185=some false:=by kernel_rfl
theorem Tryz.e102:Tryz.abEnv.fn 102=some Tryz.f102:=by kernel_rfl
theorem Tryz.a101:Tryz.abEnv.agg 101=some false:=by kernel_rfl
theorem Tryz.s101:Tryz.abEnv.sz 101=some 1:=by kernel_rfl
theorem Tryz.z101:Tryz.abEnv.zero 101=some [.nilFunc]:=by kernel_rfl
theorem Tryz.n101:az zM 101=some false:=by kernel_rfl
theorem Tryz.a102:Tryz.abEnv.agg 102=some true:=by kernel_rfl
theorem Tryz.s102:Tryz.abEnv.sz 102=some 3:=by kernel_rfl
theorem Tryz.z102:Tryz.abEnv.zero 102=some [.int .i64 0,.slice none 0 0,.slice none 0 0]:=by kernel_rfl
theorem Tryz.i102:aQ zM 102=true:=by kernel_rfl
theorem Tryz.n102:az zM 102=some false:=by kernel_rfl
theorem Tryz.p102:placesOf zM 102=some [(0,1),(1,1),(2,1)]:=by kernel_rfl
theorem Tryz.ff102(b o:Nat)(s:Option Nat):ah zM 102 (.pointer (some ⟨b,o,s⟩)) 0=some (.pointer (some ⟨b,o+0,none⟩))/\ah zM 102 (.pointer (some ⟨b,o,s⟩)) 1=some (.pointer (some ⟨b,o+1,none⟩))/\ah zM 102 (.pointer (some ⟨b,o,s⟩)) 2=some (.pointer (some ⟨b,o+2,none⟩)):=⟨rfl,rfl,rfl⟩
theorem Tryz.d102(x0 x1 x2:Value):ar zM 102 (.agg ⟨[x0,x1,x2]⟩) 0=some x0/\ar zM 102 (.agg ⟨[x0,x1,x2]⟩) 1=some x1/\ar zM 102 (.agg ⟨[x0,x1,x2]⟩) 2=some x2:=⟨rfl,rfl,rfl⟩
theorem Tryz.u255:Tryz.abEnv.und 255=some (.pointer 259):=by kernel_rfl
theorem Tryz.a255:Tryz.abEnv.agg 255=some false:=by kernel_rfl
theorem Tryz.s255:Tryz.abEnv.sz 255=some 1:=by kernel_rfl
theorem Tryz.z255:Tryz.abEnv.zero 255=some [.pointer none]:=by kernel_rfl
theorem Tryz.q255:fS zM 255=true:=by kernel_rfl
theorem Tryz.i255:aQ zM 255=true:=by kernel_rfl
theorem Tryz.n255:az zM 255=some false:=by kernel_rfl
theorem Tryz.a259:Tryz.abEnv.agg 259=some true:=by kernel_rfl
theorem Tryz.s259:Tryz.abEnv.sz 259=some 5:=by kernel_rfl
theorem Tryz.z259:Tryz.abEnv.zero 259=some [.pointer none,.slice none 0 0,.slice none 0 0,.slice none 0 0,.map none]:=by kernel_rfl
theorem Tryz.i259:aQ zM 259=true:=by kernel_rfl
theorem Tryz.n259:az zM 259=some false:=by kernel_rfl
theorem Tryz.p259:placesOf zM 259=some [(0,1),(1,3),(4,1)]:=by kernel_rfl
theorem Tryz.ff259(b o:Nat)(s:Option Nat):ah zM 259 (.pointer (some ⟨b,o,s⟩)) 0=some (.pointer (some ⟨b,o+0,none⟩))/\ah zM 259 (.pointer (some ⟨b,o,s⟩)) 1=some (.pointer (some ⟨b,o+1,none⟩))/\ah zM 259 (.pointer (some ⟨b,o,s⟩)) 2=some (.pointer (some ⟨b,o+4,none⟩)):=⟨rfl,rfl,rfl⟩
theorem Tryz.d259(x0 x1 x2 x3 x4:Value):ar zM 259 (.agg ⟨[x0,x1,x2,x3,x4]⟩) 0=some x0/\ar zM 259 (.agg ⟨[x0,x1,x2,x3,x4]⟩) 1=some (.agg ⟨[x1,x2,x3]⟩)/\ar zM 259 (.agg ⟨[x0,x1,x2,x3,x4]⟩) 2=some x4:=⟨rfl,rfl,rfl⟩
theorem Tryz.a261:Tryz.abEnv.agg 261=some false:=by kernel_rfl
theorem Tryz.s261:Tryz.abEnv.sz 261=some 1:=by kernel_rfl
theorem Tryz.z261:Tryz.abEnv.zero 261=some [.nilFunc]:=by kernel_rfl
theorem Tryz.n261:az zM 261=some false:=by kernel_rfl
theorem Tryz.e103:Tryz.abEnv.fn 103=some Tryz.f103:=by kernel_rfl
theorem Tryz.e104:Tryz.abEnv.fn 104=some Tryz.f104:=by kernel_rfl
theorem Tryz.e105:Tryz.abEnv.fn 105=some Tryz.f105:=by kernel_rfl
theorem Tryz.a189:Tryz.abEnv.agg 189=some false:=by kernel_rfl
theorem Tryz.s189:Tryz.abEnv.sz 189=some 1:=by kernel_rfl
theorem Tryz.z189:Tryz.abEnv.zero 189=some [.nilFunc]:=by kernel_rfl
theorem Tryz.n189:az zM 189=some false:=by kernel_rfl
theorem Tryz.e106:Tryz.abEnv.fn 106=some Tryz.f106:=by kernel_rfl
theorem Tryz.e115:Tryz.abEnv.fn 115=some Tryz.f115:=by kernel_rfl
theorem Tryz.e134:Tryz.abEnv.fn 134=some Tryz.f134:=by kernel_rfl
theorem Tryz.a284:Tryz.abEnv.agg 284=some false:=by kernel_rfl
theorem Tryz.s284:Tryz.abEnv.sz 284=some 1:=by kernel_rfl
theorem Tryz.z284:Tryz.abEnv.zero 284=some [.nilFunc]:=by kernel_rfl
theorem Tryz.n284:az zM 284=some false:=by kernel_rfl
theorem Tryz.e135:Tryz.abEnv.fn 135=some Tryz.f135:=by kernel_rfl
theorem Tryz.e136:Tryz.abEnv.fn 136=some Tryz.f136:=by kernel_rfl
theorem Tryz.e137:Tryz.abEnv.fn 137=some Tryz.f137:=by kernel_rfl
theorem Tryz.e138:Tryz.abEnv.fn 138=some Tryz.f138:=by kernel_rfl
theorem Tryz.e139:Tryz.abEnv.fn 139=some Tryz.f139:=by kernel_rfl
theorem Tryz.u286:Tryz.abEnv.und 286=some (.slice 220):=by kernel_rfl
theorem Tryz.a286:Tryz.abEnv.agg 286=some false:=by kernel_rfl
theorem Tryz.s286:Tryz.abEnv.sz 286=some 1:=by kernel_rfl
theorem Tryz.z286:Tryz.abEnv.zero 286=some [.slice none 0 0]:=by kernel_rfl
theorem Tryz.q286:kh zM 286=true:=by kernel_rfl
theorem Tryz.n286:az zM 286=some false:=by kernel_rfl
theorem Tryz.e140:Tryz.abEnv.fn 140=some Tryz.f140:=by kernel_rfl
theorem Tryz.e141:Tryz.abEnv.fn 141=some Tryz.f141:=by kernel_rfl
theorem Tryz.e142:Tryz.abEnv.fn 142=some Tryz.f142:=by kernel_rfl
theorem Tryz.e143:Tryz.abEnv.fn 143=some Tryz.f143:=by kernel_rfl
theorem Tryz.e144:Tryz.abEnv.fn 144=some Tryz.f144:=by kernel_rfl
theorem Tryz.e145:Tryz.abEnv.fn 145=some Tryz.f145:=by kernel_rfl
theorem Tryz.e146:Tryz.abEnv.fn 146=some Tryz.f146:=by kernel_rfl
theorem Tryz.e147:Tryz.abEnv.fn 147=some Tryz.f147:=by kernel_rfl
theorem Tryz.e152:Tryz.abEnv.fn 152=some Tryz.f152:=by kernel_rfl
theorem Tryz.e153:Tryz.abEnv.fn 153=some Tryz.f153:=by kernel_rfl
theorem Tryz.e154:Tryz.abEnv.fn 154=some Tryz.f154:=by kernel_rfl
theorem Tryz.e155:Tryz.abEnv.fn 155=some Tryz.f155:=by kernel_rfl
theorem Tryz.u303:Tryz.abEnv.und 303=some (.slice 310):=by kernel_rfl
theorem Tryz.a303:Tryz.abEnv.agg 303=some false:=by kernel_rfl
theorem Tryz.s303:Tryz.abEnv.sz 303=some 1:=by kernel_rfl
theorem Tryz.z303:Tryz.abEnv.zero 303=some [.slice none 0 0]:=by kernel_rfl
theorem Tryz.q303:kh zM 303=true:=by kernel_rfl
theorem Tryz.n303:az zM 303=some false:=by kernel_rfl
theorem Tryz.a310:Tryz.abEnv.agg 310=some true:=by kernel_rfl
theorem Tryz.s310:Tryz.abEnv.sz 310=some 2:=by kernel_rfl
theorem Tryz.z310:Tryz.abEnv.zero 310=some [.int .i64 0,.int .i64 0]:=by kernel_rfl
theorem Tryz.i310:aQ zM 310=true:=by kernel_rfl
theorem Tryz.n310:az zM 310=some false:=by kernel_rfl
theorem Tryz.p310:placesOf zM 310=some [(0,1),(1,1)]:=by kernel_rfl
theorem Tryz.ff310(b o:Nat)(s:Option Nat):ah zM 310 (.pointer (some ⟨b,o,s⟩)) 0=some (.pointer (some ⟨b,o+0,none⟩))/\ah zM 310 (.pointer (some ⟨b,o,s⟩)) 1=some (.pointer (some ⟨b,o+1,none⟩)):=⟨rfl,rfl⟩
theorem Tryz.d310(x0 x1:Value):ar zM 310 (.agg ⟨[x0,x1]⟩) 0=some x0/\ar zM 310 (.agg ⟨[x0,x1]⟩) 1=some x1:=⟨rfl,rfl⟩
theorem Tryz.e310E:eB zM 310 16 2 [.int .i64 0,.int .i64 0]:=⟨⟨_,rfl,by kernel_rfl,by kernel_rfl⟩,Tryz.z310,rfl⟩
theorem Tryz.e156:Tryz.abEnv.fn 156=some Tryz.f156:=by kernel_rfl
theorem Tryz.e157:Tryz.abEnv.fn 157=some Tryz.f157:=by kernel_rfl
theorem Tryz.e158:Tryz.abEnv.fn 158=some Tryz.f158:=by kernel_rfl
theorem Tryz.e159:Tryz.abEnv.fn 159=some Tryz.f159:=by kernel_rfl
theorem Tryz.e160:Tryz.abEnv.fn 160=some Tryz.f160:=by kernel_rfl
theorem Tryz.e161:Tryz.abEnv.fn 161=some Tryz.f161:=by kernel_rfl
theorem Tryz.e162:Tryz.abEnv.fn 162=some Tryz.f162:=by kernel_rfl
theorem Tryz.e163:Tryz.abEnv.fn 163=some Tryz.f163:=by kernel_rfl
theorem Tryz.e164:Tryz.abEnv.fn 164=some Tryz.f164:=by kernel_rfl
theorem Tryz.e165:Tryz.abEnv.fn 165=some Tryz.f165:=by kernel_rfl
theorem Tryz.e166:Tryz.abEnv.fn 166=some Tryz.f166:=by kernel_rfl
theorem Tryz.a234:Tryz.abEnv.agg 234=some false:=by kernel_rfl
theorem Tryz.s234:Tryz.abEnv.sz 234=some 1:=by kernel_rfl
theorem Tryz.z234:Tryz.abEnv.zero 234=some [.nilFunc]:=by kernel_rfl
theorem Tryz.n234:az zM 234=some false:=by kernel_rfl
theorem Tryz.e167:Tryz.abEnv.fn 167=some Tryz.f167:=by kernel_rfl
theorem Tryz.e168:Tryz.abEnv.fn 168=some Tryz.f168:=by kernel_rfl
theorem Tryz.e169:Tryz.abEnv.fn 169=some Tryz.f169:=by kernel_rfl
theorem Tryz.e170:Tryz.abEnv.fn 170=some Tryz.f170:=by kernel_rfl
theorem Tryz.u315:Tryz.abEnv.und 315=some (.int .u64):=by kernel_rfl
theorem Tryz.a315:Tryz.abEnv.agg 315=some false:=by kernel_rfl
theorem Tryz.s315:Tryz.abEnv.sz 315=some 1:=by kernel_rfl
theorem Tryz.z315:Tryz.abEnv.zero 315=some [.int .u64 0]:=by kernel_rfl
theorem Tryz.i315:aQ zM 315=true:=by kernel_rfl
theorem Tryz.e171:Tryz.abEnv.fn 171=some Tryz.f171:=by kernel_rfl
theorem Tryz.e172:Tryz.abEnv.fn 172=some Tryz.f172:=by kernel_rfl
theorem Tryz.e173:Tryz.abEnv.fn 173=some Tryz.f173:=by kernel_rfl
theorem Tryz.e174:Tryz.abEnv.fn 174=some Tryz.f174:=by kernel_rfl
theorem Tryz.e198:Tryz.abEnv.fn 198=some Tryz.f198:=by kernel_rfl
theorem Tryz.e199:Tryz.abEnv.fn 199=some Tryz.f199:=by kernel_rfl
theorem Tryz.e200:Tryz.abEnv.fn 200=some Tryz.f200:=by kernel_rfl
theorem Tryz.e201:Tryz.abEnv.fn 201=some Tryz.f201:=by kernel_rfl
theorem Tryz.a287:Tryz.abEnv.agg 287=some false:=by kernel_rfl
theorem Tryz.s287:Tryz.abEnv.sz 287=some 1:=by kernel_rfl
theorem Tryz.z287:Tryz.abEnv.zero 287=some [.nilFunc]:=by kernel_rfl
theorem Tryz.n287:az zM 287=some false:=by kernel_rfl
theorem Tryz.e202:Tryz.abEnv.fn 202=some Tryz.f202:=by kernel_rfl
theorem Tryz.e203:Tryz.abEnv.fn 203=some Tryz.f203:=by kernel_rfl
theorem Tryz.e207:Tryz.abEnv.fn 207=some Tryz.f207:=by kernel_rfl
theorem Tryz.u325:Tryz.abEnv.und 325=some (.pointer 305):=by kernel_rfl
theorem Tryz.a325:Tryz.abEnv.agg 325=some false:=by kernel_rfl
theorem Tryz.s325:Tryz.abEnv.sz 325=some 1:=by kernel_rfl
theorem Tryz.z325:Tryz.abEnv.zero 325=some [.pointer none]:=by kernel_rfl
theorem Tryz.q325:fS zM 325=true:=by kernel_rfl
theorem Tryz.i325:aQ zM 325=true:=by kernel_rfl
theorem Tryz.n325:az zM 325=some false:=by kernel_rfl
theorem Tryz.e208:Tryz.abEnv.fn 208=some Tryz.f208:=by kernel_rfl
theorem Tryz.e209:Tryz.abEnv.fn 209=some Tryz.f209:=by kernel_rfl
theorem Tryz.e210:Tryz.abEnv.fn 210=some Tryz.f210:=by kernel_rfl
theorem Tryz.e211:Tryz.abEnv.fn 211=some Tryz.f211:=by kernel_rfl
theorem Tryz.e212:Tryz.abEnv.fn 212=some Tryz.f212:=by kernel_rfl
theorem Tryz.e213:Tryz.abEnv.fn 213=some Tryz.f213:=by kernel_rfl
theorem Tryz.e214:Tryz.abEnv.fn 214=some Tryz.f214:=by kernel_rfl
theorem Tryz.a318:Tryz.abEnv.agg 318=some false:=by kernel_rfl
theorem Tryz.s318:Tryz.abEnv.sz 318=some 1:=by kernel_rfl
theorem Tryz.z318:Tryz.abEnv.zero 318=some [.nilFunc]:=by kernel_rfl
theorem Tryz.n318:az zM 318=some false:=by kernel_rfl
theorem Tryz.e215:Tryz.abEnv.fn 215=some Tryz.f215:=by kernel_rfl
theorem Tryz.e216:Tryz.abEnv.fn 216=some Tryz.f216:=by kernel_rfl
theorem Tryz.e227:Tryz.abEnv.fn 227=some Tryz.f227:=by kernel_rfl
theorem Tryz.e228:Tryz.abEnv.fn 228=some Tryz.f228:=by kernel_rfl
theorem Tryz.e230:Tryz.abEnv.fn 230=some Tryz.f230:=by kernel_rfl
theorem Tryz.e231:Tryz.abEnv.fn 231=some Tryz.f231:=by kernel_rfl
theorem Tryz.e232:Tryz.abEnv.fn 232=some Tryz.f232:=by kernel_rfl
theorem Tryz.e234:Tryz.abEnv.fn 234=some Tryz.f234:=by kernel_rfl
theorem Tryz.e242:Tryz.abEnv.fn 242=some Tryz.f242:=by kernel_rfl
theorem Tryz.e243:Tryz.abEnv.fn 243=some Tryz.f243:=by kernel_rfl
theorem Tryz.e244:Tryz.abEnv.fn 244=some Tryz.f244:=by kernel_rfl
theorem Tryz.e249:Tryz.abEnv.fn 249=some Tryz.f249:=by kernel_rfl
end Go.Ab

end
section
namespace Go.Ab
section
variable(A:List Arc)(f:Arc->Nat)
def outs(j v:Nat):List Nat:=(zX j).filter fun i=>decide (f (A.getD i default)=v)
def start:Nat->Nat
 |0=>0
 |v+1=>start v+(outs A f A.length v).length
theorem ia(j v:Nat):outs A f (j+1) v=outs A f j v++(if f (A.getD j default)=v then [j]else []):=by
 unfold outs
 rw [XG,List.filter_append]
 congr 1
 by_cases h:f (A.getD j default)=v
 . simp only [XB,List.filter_nil,h,decide_true,if_true]
 . simp only [XB,List.filter_nil,h,decide_false,if_false,Bool.false_eq_true]
theorem outs_pre{j k:Nat}(h:j<=k)(v:Nat): ∃l,outs A f k v=outs A f j v++l:=by
 induction k with
 | zero => have:j=0:=by omega
           subst this;exact⟨[],by simp⟩
 | succ k ih=>
   by_cases hk:j=k+1
   . subst hk;exact⟨[],by simp⟩
   . obtain⟨l,hl⟩:=ih (by omega)
     exact⟨l++_,by rw [ia,hl,List.append_assoc]⟩
theorem tT{j k:Nat}(h:j<=k)(v:Nat):(outs A f j v).length<=(outs A f k v).length:=by
 obtain⟨l,hl⟩:=outs_pre A f h v
 rw [hl,Xh];omega
theorem start_eq (v:Nat):start A f v=((zX A.length).filter fun i=>decide (f (A.getD i default)<v)).length:=by
 have key: ∀(l:List Nat) (v:Nat),(l.filter fun i=>decide (f (A.getD i default)<v+1)).length=(l.filter fun i=>decide (f (A.getD i default)<v)).length+(l.filter fun i=>decide (f (A.getD i default)=v)).length:=by
  intro l v
  induction l with
  |nil=>rfl
  | cons x l ih=>
    simp only [XB]
    by_cases h1:f (A.getD x default)<v
    . have h2:f (A.getD x default)<v+1:=by omega
      have h3: ¬f (A.getD x default)=v:=by omega
      rw [if_pos (decide_eq_true h2),if_pos (decide_eq_true h1),if_neg (by rw [decide_eq_true_eq];exact h3),Xg,Xg,ih];omega
    . by_cases h3:f (A.getD x default)=v
      . have h2:f (A.getD x default)<v+1:=by omega
        rw [if_pos (decide_eq_true h2),if_neg (by rw [decide_eq_true_eq];exact h1),if_pos (decide_eq_true h3),Xg,Xg,ih];omega
      . have h2: ¬f (A.getD x default)<v+1:=by omega
        rw [if_neg (by rw [decide_eq_true_eq];exact h2),if_neg (by rw [decide_eq_true_eq];exact h1),if_neg (by rw [decide_eq_true_eq];exact h3),ih]
 induction v with
 |zero=>rw [start];symm;rw [List.length_eq_zero_iff,List.filter_eq_nil_iff];intro a _;simp only [Nat.not_lt_zero,decide_false,Bool.false_eq_true,not_false_eq_true]
 |succ v ih=>rw [start,ih,key];rfl
theorem oa(v:Nat):start A f v+(outs A f A.length v).length<=A.length:=by
 have:=start_eq A f (v+1)
 rw [start]at this
 rw [this]
 exact Xp (List.length_filter_le _ _) (by simp)
theorem tv{u v:Nat}(h:u<v):start A f u+(outs A f A.length u).length<=start A f v:=by
 induction v with
 |zero=>omega
 | succ v ih=>
   rw [start]
   by_cases hu:u=v
   . subst hu;exact Xl _
   . have:=ih (by omega);omega
theorem yu{u v r s:Nat}(hr:r<(outs A f A.length u).length)(hs:s<(outs A f A.length v).length)(h:start A f u+r=start A f v+s):u=v/\r=s:=by
 rcases Nat.lt_trichotomy u v with h1|h1|h1
 . have:=tv A f h1;omega
 . subst h1;exact⟨rfl,by omega⟩
 . have:=tv A f h1;omega
end
def cJ(x:Nat):List Value:=[.int .i64 x]
theorem ii(x:Nat):(cJ x).length=1:=rfl
def fO(h:Hp)(m:Nat)(v:Value)(N:Nat)(R:Nat->List Nat):Prop:=
 ∃bv vs,v=.slice (some ⟨bv,0,none⟩) N N/\m<=bv/\Row h bv vs 1/\vs.length=N/\ ∀i,i<N-> ∃w,vs[i]? =some w/\aA h 1 cJ w (R i)/\ ∀c,av w c->m<=c
theorem fO.mo{M:Nat->Prop}{h h':Hp}{v:Value}{m N:Nat}{R:Nat->List Nat}(r:fO h m v N R)(g:Mo M h h')(hm: ∀b,M b->b<m):fO h' m v N R:=by
 obtain⟨bv,vs,h1,h0,h2,h3,h4⟩:=r
 refine⟨bv,vs,h1,by omega,g.has (o:=.row vs 1) h2 (fun h=>by have:=hm _ h;omega),h3,fun i hi=>?_⟩
 obtain⟨w,a,b,c⟩:=h4 i hi
 exact⟨w,a,b.mo g fun x hx hM=>by have:=hm _ hM;have:=c x hx;omega,fun x hx=>by have:=c x hx;omega⟩
theorem fO.gr{h h':Hp}{v:Value}{m N:Nat}{R:Nat->List Nat}(g:Gr h h')(r:fO h m v N R):fO h' m v N R:=
 r.mo (M:=NoM) g.fr (fun _ h=>h.elim)
theorem fO.low{h:Hp}{v:Value}{m m' N:Nat}{R:Nat->List Nat}(r:fO h m v N R)(hm:m'<=m):fO h m' v N R:=by
 obtain⟨bv,vs,h1,h0,h2,h3,h4⟩:=r
 exact⟨bv,vs,h1,by omega,h2,h3,fun i hi=>by
  obtain⟨w,a,b,c⟩:=h4 i hi
  exact⟨w,a,b,fun x hx=>by have:=c x hx;omega⟩⟩
structure bN(h:Hp)(m:Nat)(p:Value)(γ:Gra):Prop where
 ex: ∃b vx vy va vo vi,p=ptrTo b/\Row h b [.int .i64 γ.nodes,vx,vy,va,vo,vi] 1/\cU h vx vy va γ/\fO h m vo γ.nodes (outs γ.arcs Arc.s γ.arcs.length)/\fO h m vi γ.nodes (outs γ.arcs Arc.t γ.arcs.length)/\m<=b/\ ∀c,av vx c\/av vy c\/av va c->m<=c
theorem cU.mo{M:Nat->Prop}{h h':Hp}{vx vy va:Value}{γ:Gra}(a:cU h vx vy va γ)(g:Mo M h h')(hm: ∀c,av vx c\/av vy c\/av va c-> ¬M c):cU h' vx vy va γ:=
 ⟨a.X.mo g fun c h=>hm c (.inl h),a.Y.mo g fun c h=>hm c (.inr (.inl h)),a.A.mo g fun c h=>hm c (.inr (.inr h))⟩
theorem bN.mo{M:Nat->Prop}{h h':Hp}{m:Nat}{p:Value}{γ:Gra}(n:bN h m p γ)(g:Mo M h h')(hm: ∀b,M b->b<m):bN h' m p γ:=by
 obtain⟨b,vx,vy,va,vo,vi,h1,h2,h3,h4,h5,h6,h7⟩:=n.ex
 exact⟨b,vx,vy,va,vo,vi,h1,g.has (o:=.row _ 1) h2 (fun h=>by have:=hm _ h;omega),h3.mo g (fun c hc hM=>by have:=hm _ hM;have:=h7 c hc;omega),h4.mo g hm,h5.mo g hm,h6,h7⟩
theorem bN.gr{h h':Hp}{m:Nat}{p:Value}{γ:Gra}(n:bN h m p γ)(g:Gr h h'):bN h' m p γ:=n.mo (M:=NoM) g.fr (fun _ h=>h.elim)
theorem j5{α:Type}{N k:Nat}{F F':Nat->α}(hk: ∀i,i<N->i≠k->F' i=F i):((zX N).map F).set k (F' k)=(zX N).map F':=by
 refine Xa fun i=>?_
 rw [Xb]
 by_cases hi:i<N
 . by_cases e:k=i
   . subst e;simp [hi]
   . rw [if_neg e];simp [hi,hk i hi (Ne.symm e)]
 . by_cases e:k=i
   . subst e;simp [hi]
   . rw [if_neg e];simp [hi]
theorem jE{α:Type}{N k:Nat}{F:Nat->α}(hk:k<N):((zX N).map F)[k]? =some (F k):=by simp [hk]
end Go.Ab

end
section
namespace Go.Ab
structure Hd where
 id:Nat
 key:Int
deriving Inhabited,DecidableEq
def hle(a b:Hd):Prop:=a.key<b.key\/(a.key=b.key/\a.id<=b.id)
def hlt(a b:Hd):Prop:=a.key<b.key\/(a.key=b.key/\a.id<b.id)
instance (a b:Hd):Decidable (hlt a b):=by unfold hlt;infer_instance
theorem sg{a b:Hd}(h: ¬hlt a b):hle b a:=by unfold hlt at h;unfold hle;omega
theorem qt{a b:Hd}(h:hlt a b):hle a b:=by unfold hlt at h;unfold hle;omega
theorem js{a b c:Hd}(h:hle a b)(k:hle b c):hle a c:=by unfold hle at*;omega
theorem rz(a:Hd):hle a a:=by unfold hle;omega
def sw(l:List Hd)(i k:Nat):List Hd:=(l.set i (l.getD k default)).set k (l.getD i default)
theorem gM(l:List Hd)(i k:Nat):(sw l i k).length=l.length:=by simp [sw]
theorem jy(l:List Hd)(i j:Nat)(x:Hd):(l.set i x).getD j default=if i=j/\j<l.length then x else l.getD j default:=by
 rw [zN,zN,Xb]
 by_cases h:i=j
 . subst h
   by_cases h2:i<l.length
   . simp [h2]
   . simp [h2]
 . simp [h]
theorem ik(l:List Hd){i k:Nat}(hi:i<l.length)(hk:k<l.length)(j:Nat):(sw l i k).getD j default=if j=k then l.getD i default else if j=i then l.getD k default else l.getD j default:=by
 unfold sw
 rw [jy,jy,Xd]
 by_cases h1:k=j
 . subst h1;simp [hk]
 . have h1': ¬j=k:=fun e=>h1 e.symm
   simp only [h1,h1',false_and,if_false]
   by_cases h2:i=j
   . subst h2;simp [hi]
   . have h2': ¬j=i:=fun e=>h2 e.symm
     simp [h2,h2']
theorem qS(l:List Hd){i k:Nat}(hi:i<l.length)(hk:k<l.length):(sw l i k).Perm l:=by
 have:((l.set i l[k]).set k l[i]).Perm l:=List.set_set_perm hi hk
 unfold sw
 rwa [show l.getD k default=l[k] by simp [zN,hk],show l.getD i default=l[i] by simp [zN,hi]]
def kQ(l:List Hd):Prop:= ∀j,0<j->j<l.length->hle (l.getD ((j-1)/4) default) (l.getD j default)
def pA(l:List Hd)(i:Nat):Prop:=(∀j,0<j->j<l.length->j≠i->hle (l.getD ((j-1)/4) default) (l.getD j default))/\ ∀j,0<j->j<l.length->(j-1)/4=i->0<i->hle (l.getD ((i-1)/4) default) (l.getD j default)
theorem up_done{l:List Hd}{i:Nat}(h:pA l i)(hd:i=0\/hle (l.getD ((i-1)/4) default) (l.getD i default)):kQ l:=by
 intro j h0 hj
 by_cases e:j=i
 . subst e;exact hd.resolve_left (by omega)
 . exact h.1 j h0 hj e
theorem up_step{l:List Hd}{i:Nat}(hi:i<l.length)(h:pA l i)(h0:0<i)(hd:hlt (l.getD i default) (l.getD ((i-1)/4) default)):pA (sw l i ((i-1)/4)) ((i-1)/4):=by
 have hp:(i-1)/4<l.length:=by omega
 generalize hpe:(i-1)/4=p at*
 have pi:p<i:=by omega
 refine⟨fun j j0 jl jp=>?_,fun j j0 jl jp p0=>?_⟩
 . rw [gM]at jl
   rw [ik l hi hp,ik l hi hp,if_neg jp]
   by_cases e1:j=i
   . subst e1;rw [hpe,if_pos rfl,if_pos rfl];exact qt hd
   . rw [if_neg e1]
     by_cases e2:(j-1)/4=p
     . rw [if_pos e2]
       have:=h.1 j j0 jl e1
       rw [e2]at this
       exact js (qt hd) this
     . rw [if_neg e2]
       by_cases e3:(j-1)/4=i
       . rw [if_pos e3];have:=h.2 j j0 jl e3 h0;rwa [hpe]at this
       . rw [if_neg e3];exact h.1 j j0 jl e1
 . rw [gM]at jl
   have q1: ¬(p-1)/4=p:=by omega
   have q2: ¬(p-1)/4=i:=by omega
   rw [ik l hi hp,ik l hi hp,if_neg q1,if_neg q2,if_neg (show¬j=p by omega)]
   have k1:=h.1 p p0 hp (by omega)
   by_cases e1:j=i
   . rw [if_pos e1];exact k1
   . rw [if_neg e1]
     have:=h.1 j j0 jl e1
     rw [jp]at this
     exact js k1 this
def qJ(l:List Hd)(i:Nat):Prop:=(∀j,0<j->j<l.length->(j-1)/4≠i->hle (l.getD ((j-1)/4) default) (l.getD j default))/\ ∀j,0<j->j<l.length->(j-1)/4=i->0<i->hle (l.getD ((i-1)/4) default) (l.getD j default)
theorem dn_done{l:List Hd}{i:Nat}(h:qJ l i)(hd: ∀j,0<j->j<l.length->(j-1)/4=i->hle (l.getD i default) (l.getD j default)):kQ l:=by
 intro j h0 hj
 by_cases e:(j-1)/4=i
 . rw [e];exact hd j h0 hj e
 . exact h.1 j h0 hj e
theorem dn_step{l:List Hd}{i b:Nat}(h:qJ l i)(b0:0<b)(bl:b<l.length)(be:(b-1)/4=i)(hd:hlt (l.getD b default) (l.getD i default))(hm: ∀j,0<j->j<l.length->(j-1)/4=i->hle (l.getD b default) (l.getD j default)):qJ (sw l i b) b:=by
 have il:i<l.length:=by omega
 refine⟨fun j j0 jl jp=>?_,fun j j0 jl jp _=>?_⟩
 . rw [gM]at jl
   rw [ik l il bl,ik l il bl,if_neg jp]
   by_cases e1:(j-1)/4=i
   . rw [if_pos e1]
     by_cases e2:j=b
     . rw [if_pos e2];exact qt hd
     . rw [if_neg e2,if_neg (show¬j=i by omega)];exact hm j j0 jl e1
   . rw [if_neg e1]
     by_cases e2:j=b
     . subst e2;exact absurd be e1
     . rw [if_neg e2]
       by_cases e3:j=i
       . subst e3;rw [if_pos rfl];exact h.2 b b0 bl be j0
       . rw [if_neg e3];exact h.1 j j0 jl e1
 . rw [gM]at jl
   rw [ik l il bl,ik l il bl,be,if_neg (show¬i=b by omega),if_pos rfl,if_neg (show¬j=b by omega),if_neg (show¬j=i by omega)]
   have:=h.1 j j0 jl (by omega)
   rwa [jp]at this
theorem wX{l:List Hd}(h:kQ l): ∀j,j<l.length->hle (l.getD 0 default) (l.getD j default):=by
 intro j
 induction j using Nat.strongRecOn with
 | _ j ih=>
   intro hj
   by_cases e:j=0
   . subst e;exact rz _
   . exact js (ih ((j-1)/4) (by omega) (by omega)) (h j (by omega) hj)
theorem jM(l m:List Hd){j:Nat}(hj:j<l.length):(l++m).getD j default=l.getD j default:=by
 rw [zN,zN,zR hj]
theorem ul{l:List Hd}(h:kQ l)(x:Hd):pA (l++[x]) l.length:=by
 refine⟨fun j j0 jl jp=>?_,fun j j0 jl jp _=>?_⟩
 . simp at jl
   rw [jM l _ (by omega),jM l _ (by omega)]
   exact h j j0 (by omega)
 . simp at jl;omega
theorem yE{l:List Hd}(h:kQ l){i:Nat}{x:Hd}(hx:hle x (l.getD i default)):pA (l.set i x) i:=by
 refine⟨fun j j0 jl jp=>?_,fun j j0 jl jp i0=>?_⟩
 . rw [Xd]at jl
   rw [jy,jy,if_neg (show¬(i=j/\_)from fun e=>jp e.1.symm)]
   split
   . rename_i e;have:=h j j0 jl;rw [<-e.1]at this;exact js hx this
   . exact h j j0 jl
 . rw [Xd]at jl
   rw [jy,jy,if_neg (show¬(i=j/\_) by omega),if_neg (show¬(i=(i-1)/4/\_) by omega)]
   have k1:=h i i0 (by omega)
   have k2:=h j j0 jl
   rw [jp]at k2
   exact js k1 k2
theorem getD_take(l:List Hd){n j:Nat}(hj:j<n):(l.take n).getD j default=l.getD j default:=by
 rw [zN,zN,XC hj]
theorem heap_pop{l:List Hd}(h:kQ l)(hl:0<l.length):qJ ((sw l 0 (l.length-1)).take (l.length-1)) 0:=by
 refine⟨fun j j0 jl jp=>?_,fun j j0 jl jp i0=>?_⟩
 . rw [zY,gM]at jl
   rw [getD_take _ (by omega),getD_take _ (by omega),ik l (by omega) (by omega),ik l (by omega) (by omega),if_neg (by omega),if_neg (by omega),if_neg (by omega),if_neg (by omega)]
   exact h j j0 (by omega)
 . omega
def gH(l:List Hd)(K:Nat->Option Int):Prop:=(l.map Hd.id).Nodup/\ ∀v k,K v=some k↔⟨v,k⟩∈l
def bZ(K:Nat->Option Int)(v:Nat)(x:Option Int):Nat->Option Int:=fun u=>if u=v then x else K u
theorem gH.perm{l m:List Hd}{K:Nat->Option Int}(h:gH l K)(p:m.Perm l):gH m K:=
 ⟨(p.map Hd.id).nodup_iff.2 h.1,fun v k=>by rw [h.2];exact p.mem_iff.symm⟩
theorem gH.free{l:List Hd}{K:Nat->Option Int}(h:gH l K){v:Nat}(hv:K v=none):v∉l.map Hd.id:=by
 intro hm
 obtain⟨x,hx,rfl⟩:=List.mem_map.1 hm
 have:=(h.2 x.id x.key).2 hx
 rw [hv]at this;cases this
theorem gH.push{l:List Hd}{K:Nat->Option Int}(h:gH l K){v:Nat}(hv:K v=none)(k:Int):gH (l++[⟨v,k⟩]) (bZ K v (some k)):=by
 refine⟨?_,fun u x=>?_⟩
 . rw [zW,zQ]
   exact⟨h.1,by simp,fun a ha b hb e=>h.free hv (by simp at hb;subst hb;subst e;exact ha)⟩
 . unfold bZ
   by_cases e:u=v
   . subst e
     rw [if_pos rfl,XH]
     constructor
     . intro e;cases e;exact .inr (by simp)
     . rintro(h1|h1)
       . have:=(h.2 u x).2 h1;rw [hv]at this;cases this
       . simp at h1;rw [h1]
   . rw [if_neg e,XH,h.2]
     constructor
     . exact .inl
     . rintro(h1|h1)
       . exact h1
       . simp at h1;exact absurd h1.1 e
theorem nodup_idx{l:List Hd}(h:(l.map Hd.id).Nodup){i j:Nat}(hi:i<l.length)(hj:j<l.length)(e:(l.getD i default).id=(l.getD j default).id):i=j:=by
 refine nN h (x:=(l.getD i default).id) (by simp [hi]) ?_
 rw [e];simp [hj]
theorem gH.lower{l:List Hd}{K:Nat->Option Int}(h:gH l K){i:Nat}(hi:i<l.length)(k:Int):gH (l.set i ⟨(l.getD i default).id,k⟩) (bZ K (l.getD i default).id (some k)):=by
 have e1:(l.set i ⟨(l.getD i default).id,k⟩).map Hd.id=l.map Hd.id:=by
  rw [List.map_set]
  refine Xa fun j=>?_
  rw [Xb]
  split
  . rename_i e;subst e;simp [hi]
  . rfl
 refine⟨by rw [e1];exact h.1,fun u x=>?_⟩
 unfold bZ
 by_cases e:u=(l.getD i default).id
 . rw [if_pos e]
   constructor
   . intro e2;cases e2;subst e;exact List.mem_iff_getElem?.2 ⟨i,by simp [hi]⟩
   . intro hm
     obtain⟨j,hj⟩:=List.mem_iff_getElem?.1 hm
     rw [Xb]at hj
     split at hj
     . cases hj;rfl
     . rename_i hne
       have hjl:=(List.getElem?_eq_some_iff.1 hj).1
       exact absurd (nodup_idx h.1 hi hjl (by rw [<-e];simp [zN,hj])) hne
 . rw [if_neg e,h.2]
   constructor
   . intro hm
     obtain⟨j,hj⟩:=List.mem_iff_getElem?.1 hm
     refine List.mem_iff_getElem?.2 ⟨j,?_⟩
     rw [Xb,if_neg ?_]
     . exact hj
     . rintro rfl
       apply e
       simp [zN,hj]
   . intro hm
     obtain⟨j,hj⟩:=List.mem_iff_getElem?.1 hm
     rw [Xb]at hj
     split at hj
     . cases hj;exact absurd rfl e
     . exact zS hj
theorem gH.pop{l:List Hd}{K:Nat->Option Int}(h:gH l K)(hl:0<l.length):gH ((sw l 0 (l.length-1)).take (l.length-1)) (bZ K (l.getD 0 default).id none):=by
 have p:=qS l (i:=0) (k:=l.length-1) hl (by omega)
 have h2:=h.perm p
 have e:sw l 0 (l.length-1)=(sw l 0 (l.length-1)).take (l.length-1)++[l.getD 0 default]:=by
  refine Xa fun j=>?_
  have hs:=ik l (i:=0) (k:=l.length-1) hl (by omega) (l.length-1)
  rw [if_pos rfl]at hs
  have sl:=gM l 0 (l.length-1)
  by_cases hj:j<l.length-1
  . rw [zR (by simp [sl];omega),XC hj]
  . by_cases hj2:j=l.length-1
    . subst hj2
      rw [zP (by simp [sl])]
      rw [<-hs]
      simp [sl,zN,show l.length-1<l.length by omega]
    . rw [XM (by omega),XM (by simp [sl];omega)]
 generalize(sw l 0 (l.length-1)).take (l.length-1)=m at*
 generalize l.getD 0 default=x at*
 rw [e]at h2
 obtain⟨n1,n2⟩:=h2
 rw [zW,zQ]at n1
 refine⟨n1.1,fun v k=>?_⟩
 unfold bZ
 by_cases ev:v=x.id
 . rw [if_pos ev]
   constructor
   . intro h;cases h
   . intro hm
     exact absurd ev (n1.2.2 v (zT (f:=Hd.id) hm) x.id (by simp))
 . rw [if_neg ev,n2,XH]
   constructor
   . rintro(h|h)
     . exact h
     . simp at h;exact absurd (by rw [<-h]) ev
   . exact .inl
theorem gH.at{l:List Hd}{K:Nat->Option Int}(h:gH l K){i:Nat}(hi:i<l.length):K (l.getD i default).id=some (l.getD i default).key:=
 (h.2 _ _).2 (List.mem_iff_getElem?.2 ⟨i,by simp [hi]⟩)
theorem gH.idx{l:List Hd}{K:Nat->Option Int}(h:gH l K){v:Nat}{k:Int}(hv:K v=some k): ∃i,i<l.length/\l.getD i default=⟨v,k⟩:=by
 obtain⟨i,hi⟩:=List.mem_iff_getElem?.1 ((h.2 v k).1 hv)
 exact⟨i,(List.getElem?_eq_some_iff.1 hi).1,by simp [zN,hi]⟩
theorem gH.nil{K:Nat->Option Int}(h:gH [] K)(v:Nat):K v=none:=by
 cases hk:K v with
 |none=>rfl
 |some k=>have:=(h.2 v k).1 hk;cases this
theorem cont_nil:gH [] (fun _=>none):=⟨.nil,fun v k=>by constructor<;>intro h<;>cases h⟩
end Go.Ab

end
section
namespace Go.Ab
def FAR:Nat:=72057594037927936
def bz:Nat:=2147483647
theorem gO:FAR=72057594037927936:=rfl
theorem kD:bz=2147483647:=rfl
inductive Wk(B:List Arc)(s:Nat):Nat->Nat->Prop where
 |nil:Wk B s s 0
 |snoc {w:Nat} {a:Arc}:a∈B->Wk B s a.s w->Wk B s a.t (w+a.w)
theorem Wk.snoc'{B:List Arc}{s u v w x:Nat}(h:Wk B s u w){a:Arc}(ha:a∈B)(hs:a.s=u)(ht:a.t=v)(hx:x=w+a.w):Wk B s v x:=by
 subst hs ht hx;exact .snoc ha h
def IsD(B:List Arc)(s v x:Nat):Prop:=(x<FAR/\Wk B s v x/\ ∀w,Wk B s v w->x<=w)\/(x=FAR/\ ∀w,¬Wk B s v w)
theorem IsD.uniq{B:List Arc}{s v x y:Nat}(h:IsD B s v x)(k:IsD B s v y):x=y:=by
 rcases h with⟨a,b,c⟩|⟨a,b⟩<;>rcases k with⟨d,e,f⟩|⟨d,e⟩
 . have:=c _ e;have:=f _ b;omega
 . exact absurd b (e _)
 . exact absurd e (b _)
 . omega
theorem IsD.le{B:List Arc}{s v x:Nat}(h:IsD B s v x):x<=FAR:=by
 rcases h with⟨a,_,_⟩|⟨a,_⟩<;>omega
theorem IsD.arc{B:List Arc}{s x y:Nat}{a:Arc}(ha:a∈B)(hx:IsD B s a.s x)(hy:IsD B s a.t y):y<=x+a.w:=by
 rcases hx with⟨a1,b1,c1⟩|⟨a1,b1⟩
 . rcases hy with⟨a2,b2,c2⟩|⟨a2,b2⟩
   . exact c2 _ (.snoc ha b1)
   . exact absurd (.snoc ha b1) (b2 _)
 . have:=hy.le;omega
theorem nu: ∀(N:Nat) (l:List Nat),l.Nodup->(∀x∈l,x<N)->l.length<=N
 | 0,l,_,h=>by
   cases l with
   |nil=>simp
   |cons x l=>have:=h x (by simp);omega
 | N+1,l,hn,h=>by
   have h1:=nu N (l.erase N) (hn.erase N) (fun x hx=>by
    have h2:=h x (List.mem_of_mem_erase hx)
    have h3:x≠N:=fun e=>by subst e;exact(List.Nodup.not_mem_erase hn) hx
    omega)
   have h2:=List.length_erase (a:=N) (l:=l)
   split at h2<;>omega

section
variable{B:List Arc}{s N:Nat}{O:List Nat}{D:Nat->Nat}{K:Nat->Option Int}{ex:Arc->Prop}
structure Dj(B:List Arc)(s N:Nat)(O:List Nat)(D:Nat->Nat)(K:Nat->Option Int)(ex:Arc->Prop):Prop where
 i1: ∀v,v∈O->K v=none
 i2: ∀v∈O,Wk B s v (D v)/\(∀w,Wk B s v w->D v<=w)/\D v<=O.length*bz
 i2f: ∀v,v∉O->D v=FAR
 i3: ∀v k,K v=some k->v<N/\ ∃n:Nat,k=n/\Wk B s v n/\n<=O.length*bz
 i4: ∀a∈B,a.s∈O-> ¬ex a->a.t∈O\/ ∃k:Int,K a.t=some k/\k<=D a.s+a.w
 i5:s∈O\/K s=some 0
 nd:O.Nodup
 lt: ∀v∈O,v<N
theorem Dj.len(d:Dj B s N O D K ex):O.length<=N:=nu N O d.nd d.lt
theorem dj_init(hs:s<N):Dj B s N [] (fun _=>FAR) (bZ (fun _=>none) s (some 0)) (fun _=>False):=by
 refine⟨fun v h=>(by cases h),fun v h=>(by cases h),fun v _=>rfl,fun v k h=>?_,fun a _ h=>(by cases h),.inr (by simp [bZ]),.nil,fun v h=>(by cases h)⟩
 unfold bZ at h
 split at h
 . rename_i e;cases h;subst e;exact⟨hs,0,rfl,.nil,by simp⟩
 . cases h
theorem Dj.front(d:Dj B s N O D K (fun _=>False)){x w:Nat}(h:Wk B s x w):x∈O\/ ∃y k,K y=some k/\k<=(w:Int):=by
 induction h with
 |nil=>exact d.i5.imp (fun h=>h) (fun h=>⟨_,_,h,by omega⟩)
 | @snoc w a ha hw ih=>
   rcases ih with ih|⟨y,k,h1,h2⟩
   . rcases d.i4 a ha ih (fun h=>h)with h|⟨k,h1,h2⟩
     . exact .inl h
     . have:=(d.i2 _ ih).2.1 _ hw
       exact .inr ⟨_,k,h1,by omega⟩
   . exact .inr ⟨y,k,h1,by omega⟩
theorem Dj.pop(d:Dj B s N O D K (fun _=>False)){v:Nat}{n:Nat}(hv:K v=some (n:Int))(hm: ∀u k,K u=some k->(n:Int)<=k):
 Dj B s N (O++[v]) (fun u=>if u=v then n else D u) (bZ K v none) (fun a=>a.s=v)/\v∉O/\v<N/\n<=O.length*bz:=by
 have hvO:v∉O:=fun h=>by have:=d.i1 v h;rw [hv]at this;cases this
 obtain⟨hvN,n',e,hw,hb⟩:=d.i3 v _ hv
 have e:n=n':=by omega
 subst e
 have hl:(O++[v]).length*bz=O.length*bz+bz:=by rw [Xh,List.length_singleton,Nat.succ_mul]
 refine⟨⟨fun u hu=>?_,fun u hu=>?_,fun u hu=>?_,fun u k hu=>?_,fun a ha hs hx=>?_,?_,?_,fun u hu=>?_⟩,hvO,hvN,hb⟩
 . unfold bZ
   by_cases e:u=v
   . rw [if_pos e]
   . rw [if_neg e];simp [e]at hu;exact d.i1 u hu
 . rw [hl]
   by_cases e:u=v
   . subst e
     simp only [if_true]
     refine⟨hw,fun w h=>?_,by omega⟩
     rcases d.front h with h1|⟨y,k,h1,h2⟩
     . exact absurd h1 hvO
     . have:=hm y k h1;omega
   . simp only [e,if_false]
     simp [e]at hu
     obtain⟨a,b,c⟩:=d.i2 u hu
     exact⟨a,b,by omega⟩
 . simp at hu
   simp only [hu.2,if_false]
   exact d.i2f u hu.1
 . unfold bZ at hu
   split at hu
   . cases hu
   . obtain⟨a,m,b,c,e⟩:=d.i3 u k hu
     exact⟨a,m,b,c,by rw [hl];omega⟩
 . simp [hx]at hs
   have hx': ¬a.s=v:=hx
   simp only [hx',if_false]
   rcases d.i4 a ha hs (fun h=>h)with h|⟨k,h1,h2⟩
   . exact .inl (by simp [h])
   . by_cases e:a.t=v
     . exact .inl (by simp [e])
     . exact .inr ⟨k,by unfold bZ;rw [if_neg e];exact h1,h2⟩
 . rcases d.i5 with h|h
   . exact .inl (by simp [h])
   . by_cases e:s=v
     . exact .inl (by simp [e])
     . exact .inr (by unfold bZ;rw [if_neg e];exact h)
 . rw [zQ]
   exact⟨d.nd,by simp,fun a ha b hb e=>hvO (by simp at hb;subst hb;subst e;exact ha)⟩
 . rcases List.mem_append.1 hu with h|h
   . exact d.lt u h
   . simp at h;subst h;exact hvN
def iB(O:List Nat)(K:Nat->Option Int)(u:Nat)(x:Int):Nat->Option Int:=if u∈O then K else match K u with
 |some k=>if k<=x then K else bZ K u (some x)
 |none=>bZ K u (some x)
theorem Dj.relaxed (d:Dj B s N O D K ex) {ex':Arc->Prop} {a:Arc} (ha:a∈B) (hs:a.s∈O) (hN:a.t<N) (hb:D a.s+a.w<=O.length*bz) (hx: ∀b∈B,¬ex' b-> ¬ex b\/b=a):
 Dj B s N O D (iB O K a.t ((D a.s+a.w:Nat):Int)) ex':=by
 have main: ∀K',(∀v,v∈O->K' v=K v)->(∀v k,K' v=some k->K v=some k\/(v=a.t/\k=((D a.s+a.w:Nat):Int)))->(∀v k,K v=some k-> ∃k',K' v=some k'/\k'<=k)->(a.t∈O\/ ∃k:Int,K' a.t=some k/\k<=D a.s+a.w)->Dj B s N O D K' ex':=by
  intro K' c1 c2 c3 c4
  refine⟨fun v hv=>by rw [c1 v hv];exact d.i1 v hv,d.i2,d.i2f,fun v k hk=>?_,fun b hb hbs hbx=>?_,?_,d.nd,d.lt⟩
  . rcases c2 v k hk with h|⟨rfl,rfl⟩
    . exact d.i3 v k h
    . exact⟨hN,_,rfl,.snoc ha (d.i2 _ hs).1,hb⟩
  . rcases hx b hb hbx with h|rfl
    . rcases d.i4 b hb hbs h with h|⟨k,h1,h2⟩
      . exact .inl h
      . obtain⟨k',h3,h4⟩:=c3 _ _ h1
        exact .inr ⟨k',h3,by omega⟩
    . exact c4
  . rcases d.i5 with h|h
    . exact .inl h
    . obtain⟨k',h3,h4⟩:=c3 _ _ h
      rcases c2 _ _ h3 with h5|⟨h5,h6⟩
      . rw [h]at h5;exact .inr (by rw [h3,h5])
      . exact .inr (by rw [h3];congr 1;omega)
 unfold iB
 by_cases h:a.t∈O
 . rw [if_pos h];exact main K (fun _ _=>rfl) (fun _ _ h=>.inl h) (fun v k h=>⟨k,h,by omega⟩) (.inl h)
 . rw [if_neg h]
   have upd:(∀k,K a.t=some k->((D a.s+a.w:Nat):Int)<=k)->Dj B s N O D (bZ K a.t (some ((D a.s+a.w:Nat):Int))) ex':=fun hk=>by
    refine main _ (fun v hv=>?_) (fun v k hv=>?_) (fun v k hv=>?_) (.inr ⟨((D a.s+a.w:Nat):Int),by unfold bZ;rw [if_pos rfl],by omega⟩)
    . unfold bZ;rw [if_neg (fun e=>h (by subst e;exact hv))]
    . unfold bZ at hv
      split at hv
      . rename_i e;cases hv;exact .inr ⟨e,rfl⟩
      . exact .inl hv
    . unfold bZ
      by_cases e:v=a.t
      . rw [if_pos e];subst e;exact⟨_,rfl,hk k hv⟩
      . rw [if_neg e];exact⟨k,hv,by omega⟩
   cases hk:K a.t with
   |none=>simp only [];exact upd (fun k e=>by rw [hk]at e;cases e)
   | some k=>
     simp only []
     split
     . rename_i hle
       exact main K (fun _ _=>rfl) (fun _ _ h=>.inl h) (fun v k h=>⟨k,h,by omega⟩) (.inr ⟨k,hk,by omega⟩)
     . rename_i hle
       exact upd (fun k' e=>by rw [hk]at e;cases e;omega)
theorem Dj.done(d:Dj B s N O D K (fun _=>False))(hK: ∀v,K v=none)(hN:N<=12)(v:Nat):IsD B s v (D v):=by
 have hl:=Nat.mul_le_mul_right bz (Xp d.len hN)
 have:=gO
 have:=kD
 by_cases h:v∈O
 . obtain⟨a,b,c⟩:=d.i2 v h
   exact .inl ⟨by omega,a,b⟩
 . refine .inr ⟨d.i2f v h,fun w hw=>?_⟩
   rcases d.front hw with h1|⟨y,k,h1,_⟩
   . exact h h1
   . rw [hK]at h1;cases h1
end
theorem ki{A:List Arc}{f:Arc->Nat}{j v i:Nat}:i∈outs A f j v↔i<j/\f (A.getD i default)=v:=by
 unfold outs
 rw [List.mem_filter,List.mem_range,decide_eq_true_eq]
def cZ(a:Arc):Arc:=⟨a.t,a.s,a.w⟩

structure Ls(B:List Arc)(s N:Nat)(l:Nat->Nat):Prop where
 le: ∀v,l v<=FAR
 wk: ∀v,l v=FAR\/Wk B s v (l v)
 s0:l s=0
def dU(l:Nat->Nat)(v x:Nat):Nat->Nat:=fun u=>if u=v then x else l u
theorem Ls.step{B:List Arc}{s N:Nat}{l:Nat->Nat}(h:Ls B s N l){a:Arc}(ha:a∈B)(h1:l a.s<FAR)(h2:l a.s+a.w<l a.t):Ls B s N (dU l a.t (l a.s+a.w)):=by
 have hw:=(h.wk a.s).resolve_left (by omega)
 refine⟨fun v=>?_,fun v=>?_,?_⟩
 . unfold dU;split
   . have:=h.le a.t;omega
   . exact h.le v
 . unfold dU;split
   . rename_i e;subst e;exact .inr (.snoc ha hw)
   . exact h.wk v
 . unfold dU;split
   . rename_i e;rw [<-e,h.s0]at h2;omega
   . exact h.s0
theorem Ls.le_wk{B:List Arc}{s N:Nat}{l:Nat->Nat}(h:Ls B s N l)(hd: ∀a∈B,l a.s<FAR->l a.t<=l a.s+a.w){v w:Nat}(k:Wk B s v w):l v<=w:=by
 induction k with
 |nil=>rw [h.s0];omega
 | @snoc w a ha hw ih=>
   by_cases e:l a.s<FAR
   . have:=hd a ha e;omega
   . have:=h.le a.t;omega
theorem Ls.isD{B:List Arc}{s N v x:Nat}{l:Nat->Nat}(h:Ls B s N l)(hd: ∀a∈B,l a.s<FAR->l a.t<=l a.s+a.w)(k:IsD B s v x):l v=x:=by
 rcases k with⟨a,b,c⟩|⟨a,b⟩
 . have h1:=h.le_wk hd b
   rcases h.wk v with h2|h2
   . omega
   . have:=c _ h2;omega
 . rcases h.wk v with h2|h2
   . omega
   . exact absurd h2 (b _)
def sumTo(l:Nat->Nat):Nat->Nat
 |0=>0
 |n+1=>sumTo l n+l n
theorem sum_upd{l:Nat->Nat}{v x:Nat}: ∀{N:Nat},v<N->sumTo (dU l v x) N+l v=sumTo l N+x
 |0,h=>by omega
 | N +1,h=>by
   have none: ∀{M:Nat},M<=v->sumTo (dU l v x) M=sumTo l M:=by
    intro M
    induction M with
    |zero=>intro _;rfl
    |succ M ih=>intro hM;simp only [sumTo];rw [ih (by omega)];unfold dU;rw [if_neg (by omega)]
   simp only [sumTo]
   by_cases e:v=N
   . subst e;rw [none (Xl _)];unfold dU;rw [if_pos rfl];omega
   . have:=sum_upd (l:=l) (v:=v) (x:=x) (N:=N) (by omega)
     have:dU l v x N=l N:=by unfold dU;rw [if_neg (by omega)]
     omega
end Go.Ab

end
section
namespace Go.Ab
def EM(l:List (Int×Value×Nat)):List (Value×Value×Nat):=l.map fun p=>(.int .i64 p.1,p.2.1,p.2.2)
def c8(f:Int->Option Value)(x:Int)(v:Option Value):Int->Option Value:=fun y=>if y=x then v else f y
def cM(es:List (Value×Value×Nat))(c:Nat)(f:Int->Option Value):Prop:=
 ∃l,es=EM l/\(l.map zU).Nodup/\(l.map fun p=>p.2.2).Nodup/\(∀p∈l,p.2.2<c)/\ ∀x v,f x=some v↔ ∃n,(x,v,n)∈l
theorem pf{x y:Int}:cq (.int .i64 x) (.int .i64 y)=some (decide (x=y)):=by
 show some (iC x y)=_
 congr 1
 rw [ns]
theorem vh{l:List (Int×Value×Nat)}(hn:(l.map zU).Nodup){x:Int}{v:Value}{n:Nat}(h:(x,v,n)∈l):cd (.int .i64 x) (EM l)=some (some (v,n)):=by
 induction l with
 |nil=>cases h
 | cons p l ih=>
   obtain⟨y,w,m⟩:=p
   show(match cq (.int .i64 x) (.int .i64 y)with|none=>none|some true=>some (some (w,m))|some false=>cd (.int .i64 x) (EM l))=_
   rw [pf]
   rw [Xe,Xo]at hn
   by_cases e:x=y
   . subst e
     rw [decide_eq_true rfl]
     simp only []
     rcases List.mem_cons.1 h with h|h
     . cases h;rfl
     . exact absurd (zT (f:=zU) h) hn.1
   . rw [decide_eq_false e]
     simp only []
     rcases List.mem_cons.1 h with h|h
     . cases h;exact absurd rfl e
     . exact ih hn.2 h
theorem find_miss{l:List (Int×Value×Nat)}{x:Int}(h:x∉l.map zU):cd (.int .i64 x) (EM l)=some none:=by
 induction l with
 |nil=>rfl
 | cons p l ih=>
   obtain⟨y,w,m⟩:=p
   show(match cq (.int .i64 x) (.int .i64 y)with|none=>none|some true=>some (some (w,m))|some false=>cd (.int .i64 x) (EM l))=_
   rw [pf]
   simp only [Xe,Xt,not_or]at h
   rw [decide_eq_false h.1]
   exact ih h.2
theorem qk{l:List (Int×Value×Nat)}(hn:(l.map zU).Nodup){x:Int}{v:Value}{n:Nat}(h:(x,v,n)∈l):
 ∃a b,l=a++(x,v,n)::b/\(∀w,j9 (.int .i64 x) w (EM l)=EM (a++(x,w,n)::b))/\jr (.int .i64 x) (EM l)=EM (a++b):=by
 induction l with
 |nil=>cases h
 | cons p l ih=>
   obtain⟨y,w,m⟩:=p
   rw [Xe,Xo]at hn
   by_cases e:x=y
   . subst e
     rcases List.mem_cons.1 h with h|h
     . cases h
       refine⟨[],l,rfl,fun u=>?_,?_⟩
       . show(match cq (.int .i64 x) (.int .i64 x)with|some true=>_|_=>_)=_
         rw [pf,decide_eq_true rfl];rfl
       . show(match cq (.int .i64 x) (.int .i64 x)with|some true=>_|_=>_)=_
         rw [pf,decide_eq_true rfl];rfl
     . exact absurd (zT (f:=zU) h) hn.1
   . rcases List.mem_cons.1 h with h|h
     . cases h;exact absurd rfl e
     . obtain⟨a,b,h1,h2,h3⟩:=ih hn.2 h
       refine⟨(y,w,m)::a,b,by rw [h1];rfl,fun u=>?_,?_⟩
       . show(match cq (.int .i64 x) (.int .i64 y)with|some true=>_|_=>(Value.int .i64 y,w,m)::j9 (.int .i64 x) u (EM l))=_
         rw [pf,decide_eq_false e,h2];rfl
       . show(match cq (.int .i64 x) (.int .i64 y)with|some true=>_|_=>(Value.int .i64 y,w,m)::jr (.int .i64 x) (EM l))=_
         rw [pf,decide_eq_false e,h3];rfl
theorem rf{a b:List (Int×Value×Nat)}{x:Int}{v w:Value}{n:Nat}(hn:((a++(x,v,n)::b).map fun p=>p.2.2).Nodup):ic n w (EM (a++(x,v,n)::b))=some (EM (a++(x,w,n)::b)):=by
 induction a with
 | nil=>
   show(bif Xi n n then _ else _)=_
   rw [XD];rfl
 | cons p a ih=>
   obtain⟨y,u,m⟩:=p
   rw [List.cons_append,Xe,Xo]at hn
   have:Xi m n=false:=by
    cases hb:Xi m n with
    |false=>rfl
    | true=>
      have e:=XN hb
      exact absurd (List.mem_map.2 ⟨(x,v,n),by simp,e.symm⟩) hn.1
   show(bif Xi m n then _ else match ic n w (EM (a++(x,v,n)::b))with|none=>none|some l'=>some ((Value.int .i64 y,u,m)::l'))=_
   rw [this,ih hn.2];rfl
theorem qA{a b:List (Int×Value×Nat)}{x:Int}{v:Value}{n:Nat}:(a++(x,v,n)::b).map zU=a.map zU++x::b.map zU:=by simp
section
variable{es:List (Value×Value×Nat)}{c:Nat}{f:Int->Option Value}{x:Int}
theorem lD:cM [] 0 (fun _=>none):=⟨[],rfl,.nil,.nil,fun _ h=>(by cases h),fun x v=>⟨fun h=>(by cases h),fun⟨_,h⟩=>(by cases h)⟩⟩
theorem cM.hit(h:cM es c f){v:Value}(hf:f x=some v): ∃n,cd (.int .i64 x) es=some (some (v,n)):=by
 obtain⟨l,rfl,h1,h2,h3,h4⟩:=h
 obtain⟨n,hn⟩:=(h4 x v).1 hf
 exact⟨n,vh h1 hn⟩
theorem cM.miss(h:cM es c f)(hf:f x=none):cd (.int .i64 x) es=some none:=by
 obtain⟨l,rfl,h1,h2,h3,h4⟩:=h
 refine find_miss fun hm=>?_
 obtain⟨⟨y,v,n⟩,hp,rfl⟩:=List.mem_map.1 hm
 have:=(h4 y v).2 ⟨n,hp⟩
 rw [hf]at this;cases this
theorem ru{a b:List (Int×Value×Nat)}{v w:Value}{n:Nat}(h1:((a++(x,v,n)::b).map zU).Nodup)(h2:((a++(x,v,n)::b).map fun p=>p.2.2).Nodup)(h3: ∀p∈a++(x,v,n)::b,p.2.2<c)
 (h4: ∀x' v',f x'=some v'↔ ∃n',(x',v',n')∈a++(x,v,n)::b):cM (EM (a++(x,w,n)::b)) c (c8 f x (some w)):=by
 have k1:=h1
 rw [qA,zQ]at k1
 refine⟨_,rfl,by rw [qA];rwa [qA]at h1,by rw [zW,Xe]at h2⊢;exact h2,fun p hp=>?_,fun y u=>?_⟩
 . rcases List.mem_append.1 hp with hp|hp
   . exact h3 p (by simp [hp])
   . rcases List.mem_cons.1 hp with rfl|hp
     . exact h3 (x,v,n) (by simp)
     . exact h3 p (by simp [hp])
 . unfold c8
   by_cases e:y=x
   . subst e
     rw [if_pos rfl]
     constructor
     . intro e;cases e;exact⟨n,by simp⟩
     . rintro⟨m,hm⟩
       rcases List.mem_append.1 hm with hm|hm
       . exact absurd rfl (k1.2.2 y (zT (f:=zU) hm) y (by simp))
       . rcases List.mem_cons.1 hm with hm|hm
         . cases hm;rfl
         . exact absurd (zT (f:=zU) hm) (List.nodup_cons.1 k1.2.1).1
   . rw [if_neg e,h4]
     constructor<;>rintro⟨m,hm⟩<;>refine⟨m,?_⟩
     . rcases List.mem_append.1 hm with hm|hm
       . simp [hm]
       . rcases List.mem_cons.1 hm with hm|hm
         . cases hm;exact absurd rfl e
         . simp [hm]
     . rcases List.mem_append.1 hm with hm|hm
       . simp [hm]
       . rcases List.mem_cons.1 hm with hm|hm
         . cases hm;exact absurd rfl e
         . simp [hm]
theorem rQ{l:List (Int×Value×Nat)}{w:Value}(h1:(l.map zU).Nodup)(h2:(l.map fun p=>p.2.2).Nodup)(h3: ∀p∈l,p.2.2<c)(h4: ∀x' v',f x'=some v'↔ ∃n',(x',v',n')∈l)(hf:f x=none):
 cM (EM (l++[(x,w,c)])) (c+1) (c8 f x (some w)):=by
 have hx:x∉l.map zU:=fun hm=>by
  obtain⟨⟨y,v,n⟩,hp,rfl⟩:=List.mem_map.1 hm
  have:=(h4 y v).2 ⟨n,hp⟩
  rw [hf]at this;cases this
 refine⟨_,rfl,?_,?_,fun p hp=>?_,fun y u=>?_⟩
 . rw [zW,zQ]
   exact⟨h1,by simp,fun a ha b hb e=>hx (by simp at hb;subst hb;subst e;exact ha)⟩
 . rw [zW,zQ]
   refine⟨h2,by simp,fun a ha b hb e=>?_⟩
   simp at hb;subst hb
   obtain⟨p,hp,rfl⟩:=List.mem_map.1 ha
   have:=h3 p hp;omega
 . rcases List.mem_append.1 hp with hp|hp
   . have:=h3 p hp;omega
   . simp at hp;subst hp;exact Nat.lt_succ_self c
 . unfold c8
   by_cases e:y=x
   . subst e
     rw [if_pos rfl]
     constructor
     . intro e;cases e;exact⟨c,by simp⟩
     . rintro⟨m,hm⟩
       rcases List.mem_append.1 hm with hm|hm
       . exact absurd (zT (f:=zU) hm) hx
       . simp at hm;rw [hm.1]
   . rw [if_neg e,h4]
     constructor<;>rintro⟨m,hm⟩<;>refine⟨m,?_⟩
     . simp [hm]
     . rcases List.mem_append.1 hm with hm|hm
       . exact hm
       . simp at hm;exact absurd hm.1 e
theorem em_app(l:List (Int×Value×Nat))(v:Value)(n:Nat):EM l++[(.int .i64 x,v,n)]=EM (l++[(x,v,n)]):=by unfold EM;rw [zW];rfl
theorem cM.put(h:cM es c f)(v:Value): ∃es' c',(match cd (.int .i64 x) es with|none=>none|some (some _)=>some (j9 (.int .i64 x) v es,c)|some none=>some (es++[(.int .i64 x,v,c)],c+1))=some (es',c')/\cM es' c' (c8 f x (some v)):=by
 cases hf:f x with
 | none=>
   rw [h.miss hf]
   obtain⟨l,rfl,h1,h2,h3,h4⟩:=h
   exact⟨_,_,rfl,by rw [em_app];exact rQ h1 h2 h3 h4 hf⟩
 | some w=>
   obtain⟨n,e⟩:=h.hit hf
   rw [e]
   obtain⟨l,rfl,h1,h2,h3,h4⟩:=h
   obtain⟨m,hm⟩:=(h4 x w).1 hf
   obtain⟨a,b,rfl,k1,_⟩:=qk h1 hm
   exact⟨_,_,rfl,by rw [k1];exact ru h1 h2 h3 h4⟩
theorem del_miss{l:List (Int×Value×Nat)}(h:x∉l.map zU):jr (.int .i64 x) (EM l)=EM l:=by
 induction l with
 |nil=>rfl
 | cons p l ih=>
   obtain⟨y,w,m⟩:=p
   simp only [Xe,Xt,not_or]at h
   show(match cq (.int .i64 x) (.int .i64 y)with|some true=>_|_=>(Value.int .i64 y,w,m)::jr (.int .i64 x) (EM l))=_
   rw [pf,decide_eq_false h.1,ih h.2];rfl
theorem cM.del(h:cM es c f):cM (jr (.int .i64 x) es) c (c8 f x none):=by
 obtain⟨l,rfl,h1,h2,h3,h4⟩:=h
 cases hf:f x with
 | none=>
   have hx:x∉l.map zU:=fun hm=>by
    obtain⟨⟨y,v,n⟩,hp,rfl⟩:=List.mem_map.1 hm
    have:=(h4 y v).2 ⟨n,hp⟩
    rw [hf]at this;cases this
   rw [del_miss hx]
   refine⟨l,rfl,h1,h2,h3,fun y u=>?_⟩
   unfold c8
   by_cases e:y=x
   . subst e;rw [if_pos rfl];exact⟨fun h=>(by cases h),fun⟨n,hn⟩=>absurd (zT (f:=zU) hn) hx⟩
   . rw [if_neg e];exact h4 y u
 | some w=>
   obtain⟨m,hm⟩:=(h4 x w).1 hf
   obtain⟨a,b,rfl,_,k2⟩:=qk h1 hm
   rw [k2]
   have k1:=h1
   rw [qA,zQ]at k1
   obtain⟨p1,p2,p3⟩:=k1
   rw [Xo]at p2
   refine⟨a++b,rfl,?_,?_,fun p hp=>h3 p ?_,fun y u=>?_⟩
   . rw [zW,zQ]
     exact⟨p1,p2.2,fun u hu v hv=>p3 u hu v (by simp [hv])⟩
   . rw [zW,Xe,zQ]at h2
     rw [zW,zQ]
     exact⟨h2.1,(List.nodup_cons.1 h2.2.1).2,fun u hu v hv=>h2.2.2 u hu v (List.mem_cons_of_mem _ hv)⟩
   . rcases List.mem_append.1 hp with hp|hp<;>simp [hp]
   . unfold c8
     by_cases e:y=x
     . subst e
       rw [if_pos rfl]
       refine⟨fun h=>(by cases h),fun⟨n,hn⟩=>?_⟩
       rcases List.mem_append.1 hn with hn|hn
       . exact absurd rfl (p3 y (zT (f:=zU) hn) y (by simp))
       . exact absurd (zT (f:=zU) hn) p2.1
     . rw [if_neg e,h4]
       constructor<;>rintro⟨m,hm⟩<;>refine⟨m,?_⟩
       . rcases List.mem_append.1 hm with hm|hm
         . simp [hm]
         . rcases List.mem_cons.1 hm with hm|hm
           . cases hm;exact absurd rfl e
           . simp [hm]
       . rcases List.mem_append.1 hm with hm|hm<;>simp [hm]
theorem cM.ent(h:cM es c f)(z:Value): ∃es1 c1 n,(match cd (.int .i64 x) es with|none=>none|some (some (v,n))=>some (j9 (.int .i64 x) v es,c,v,n)|some none=>some (es++[(.int .i64 x,z,c)],c+1,z,c))=some (es1,c1,(f x).getD z,n)/\cM es1 c1 (c8 f x (some ((f x).getD z)))/\
 ∀w,∃es2,ic n w es1=some es2/\cM es2 c1 (c8 f x (some w)):=by
 cases hf:f x with
 | none=>
   rw [h.miss hf]
   obtain⟨l,rfl,h1,h2,h3,h4⟩:=h
   have k:=rQ (w:=z) h1 h2 h3 h4 hf
   refine⟨_,_,_,rfl,by rw [em_app];exact k,fun w=>?_⟩
   rw [em_app]
   obtain⟨l',e,q1,q2,q3,q4⟩:=k
   have hn:((l++(x,z,c)::[]).map fun p=>p.2.2).Nodup:=by
    rw [zW,zQ]
    refine⟨h2,by simp,fun a ha b hb e=>?_⟩
    simp at hb;subst hb
    obtain⟨p,hp,rfl⟩:=List.mem_map.1 ha
    have:=h3 p hp;omega
   exact⟨_,rf hn,rQ h1 h2 h3 h4 hf⟩
 | some v=>
   obtain⟨l,rfl,h1,h2,h3,h4⟩:=h
   obtain⟨m,hm⟩:=(h4 x v).1 hf
   rw [vh h1 hm]
   obtain⟨a,b,rfl,k1,_⟩:=qk h1 hm
   refine⟨_,_,_,rfl,by rw [k1];exact ru h1 h2 h3 h4,fun w=>?_⟩
   rw [k1]
   exact⟨_,rf (by simpa using h2),ru h1 h2 h3 h4⟩
end

section
variable{M:Nat->Prop}{h0 h:Hp}{L:List (Nat×Ob)}{G:List GL}{E:Env}{t kt el:TypeId}{b c:Nat}{es:List (Value×Value×Nat)}{f:Int->Option Value}{x:Int}
theorem qd(hk:E.und kt=some (.int .i64)):aW E kt (.int .i64 x)=true:=by simp only [aW,hk];rfl
theorem ks(hu:E.und t=some (.map kt el))(hk:E.und kt=some (.int .i64)){z:Value}(hz:E.zeroV el=some z)(hg:h.get b=some (.map es c))(m:cM es c f):
 dq E h t (.map (some b)) (.int .i64 x) true=some (.tuple #[(f x).getD z,.bool (f x).isSome]):=by
 simp only [dq,hu,qd hk,cond_true,hg]
 cases hf:f x with
 |none=>rw [m.miss hf];simp [hz]
 |some v=>obtain⟨n,e⟩:=m.hit hf;rw [e];simp
theorem jD(hu:E.und t=some (.map kt el))(hk:E.und kt=some (.int .i64)){z:Value}(hz:E.zeroV el=some z)(hg:h.get b=some (.map es c))(m:cM es c f):
 dq E h t (.map (some b)) (.int .i64 x) false=some ((f x).getD z):=by
 simp only [dq,hu,qd hk,cond_true,hg]
 cases hf:f x with
 |none=>rw [m.miss hf];simp [hz]
 |some v=>obtain⟨n,e⟩:=m.hit hf;rw [e];simp
theorem mI{x:Blk}{es':List (Value×Value×Nat)}{c':Nat}(hg:h.get b=some x):(h.put b (.map es' c')).get b=some (.map es' c'):=by rw [Hp.get_put,if_pos ⟨rfl,by rw [hg];rfl⟩]
theorem St.mputI(S:St M h0 h L G){i:Nat}(hi:L[i]? =some (b,.map es c))(hu:E.und t=some (.map kt el))(hk:E.und kt=some (.int .i64))(m:cM es c f)(v:Value):
 ∃h',jq E h t (.map (some b)) (.int .i64 x) v=some h'/\Mo (· =b) h h'/\ ∃es' c',cM es' c' (c8 f x (some v))/\St M h0 h' (L.set i (b,.map es' c')) G:=by
 have hg:h.get b=some (.map es c):=(S.own _ (zS hi)).2
 obtain⟨es',c',h1,h2⟩:=m.put (x:=x) v
 refine⟨h.put b (.map es' c'),?_,(Mo.refl (M:=(· =b)) S.ok).put (.inr rfl) _,es',c',h2,S.put hi (o':=.map es' c') (mI hg)⟩
 simp only [jq,jJ,hu,qd hk,cond_true,hg]
 revert h1
 cases cd (.int .i64 x) es with
 |none=>intro h1;cases h1
 | some r=>cases r with
   |none=>intro h1;cases h1;rfl
   |some _=>intro h1;cases h1;rfl
theorem St.mdelI(S:St M h0 h L G){i:Nat}(hi:L[i]? =some (b,.map es c))(hu:E.und t=some (.map kt el))(hk:E.und kt=some (.int .i64))(m:cM es c f):
 ∃h',kH E h t (.map (some b)) (.int .i64 x)=some h'/\Mo (· =b) h h'/\ ∃es' c',cM es' c' (c8 f x none)/\St M h0 h' (L.set i (b,.map es' c')) G:=by
 have hg:h.get b=some (.map es c):=(S.own _ (zS hi)).2
 refine⟨h.put b (.map (jr (.int .i64 x) es) c),?_,(Mo.refl (M:=(· =b)) S.ok).put (.inr rfl) _,_,c,m.del (x:=x),S.put hi (o':=.map _ c) (mI hg)⟩
 simp only [kH,jJ,hu,qd hk,cond_true,hg]
 cases hf:f x with
 |none=>rw [m.miss hf]
 |some v=>obtain⟨n,e⟩:=m.hit hf;rw [e]
theorem St.mentI(S:St M h0 h L G){i:Nat}(hi:L[i]? =some (b,.map es c))(hu:E.und t=some (.map kt el))(hk:E.und kt=some (.int .i64)){z:Value}(hz:E.zeroV el=some z)(m:cM es c f):
 ∃ h' n,iR E h t (.map (some b)) (.int .i64 x)=some (h',.tuple #[(f x).getD z,.int .i64 (Int.ofNat n)])/\Mo (· =b) h h'/\ ∃es' c',cM es' c' (c8 f x (some ((f x).getD z)))/\St M h0 h' (L.set i (b,.map es' c')) G/\
   ∀w,∃es2,ic n w es'=some es2/\cM es2 c' (c8 f x (some w)):=by
 have hg:h.get b=some (.map es c):=(S.own _ (zS hi)).2
 obtain⟨es',c',n,h1,h2,h3⟩:=m.ent (x:=x) z
 refine⟨h.put b (.map es' c'),n,?_,(Mo.refl (M:=(· =b)) S.ok).put (.inr rfl) _,es',c',h2,S.put hi (o':=.map es' c') (mI hg),h3⟩
 simp only [iR,jJ,hu,qd hk,cond_true,hg,hz]
 revert h1
 cases cd (.int .i64 x) es with
 |none=>intro h1;cases h1
 | some r=>cases r with
   |none=>intro h1;simp only [Option.some.injEq,Prod.mk.injEq]at h1;obtain⟨a,b,c,d⟩:=h1;subst a b d;rw [<-c]
   |some q=>obtain⟨q1,q2⟩:=q;intro h1;simp only [Option.some.injEq,Prod.mk.injEq]at h1;obtain⟨a,b,c,d⟩:=h1;subst a b d;rw [<-c]
theorem St.mstoreI(S:St M h0 h L G){i n:Nat}(hi:L[i]? =some (b,.map es c)){w:Value}{es2:List (Value×Value×Nat)}(hs:ic n w es=some es2):
 ∃h',jW h (.map (some b)) (.int .i64 (Int.ofNat n)) w=some h'/\Mo (· =b) h h'/\St M h0 h' (L.set i (b,.map es2 c)) G:=by
 have hg:h.get b=some (.map es c):=(S.own _ (zS hi)).2
 refine⟨h.put b (.map es2 c),?_,(Mo.refl (M:=(· =b)) S.ok).put (.inr rfl) _,S.put hi (o':=.map es2 c) (mI hg)⟩
 simp only [jW,hg,fU,hs]
end
end Go.Ab

end
section
namespace Go.Ab
def jL(x:Hd):List Value:=[.int .i64 x.id,.int .i64 x.key]
theorem jw(x:Hd):(jL x).length=2:=rfl
structure dv(cs:List Value)(cap:Nat)(l:List Hd):Prop where
 len:cs.length=cap*2
 le:l.length<=cap
 at0: ∀i,i<l.length->cs[i*2]? =some (.int .i64 (l.getD i default).id)/\cs[i*2+1]? =some (.int .i64 (l.getD i default).key)
def jx(f:Int->Option Value)(l:List Hd):Prop:=(∀i,i<l.length->f (l.getD i default).id=some (.int .i64 i))/\ ∀x v,f x=some v-> ∃i,i<l.length/\x=(l.getD i default).id
section
variable{h:Hp}{bl cap i:Nat}{cs:List Value}{l:List Hd}{md:Nat}
theorem dv.ld0(c:dv cs cap l)(r:Row h bl cs md)(hi:i<l.length):h.load bl (i*2) 1=some [.int .i64 (l.getD i default).id]:=r.load1 (c.at0 i hi).1
theorem dv.ld1(c:dv cs cap l)(r:Row h bl cs md)(hi:i<l.length):h.load bl (i*2+1) 1=some [.int .i64 (l.getD i default).key]:=r.load1 (c.at0 i hi).2
theorem dv.ld2(c:dv cs cap l)(r:Row h bl cs md)(hi:i<l.length):h.load bl (i*2) 2=some [.int .i64 (l.getD i default).id,.int .i64 (l.getD i default).key]:=by
 have h0:=(c.at0 i hi).1
 have h1:=(c.at0 i hi).2
 have l1:=(List.getElem?_eq_some_iff.1 h1).1
 rw [r.load (by omega)]
 congr 1
 rw [XA (by omega),XA (by omega)]
 simp only [Xm,Xy]
 rw [(List.getElem?_eq_some_iff.1 h0).2,(List.getElem?_eq_some_iff.1 h1).2]
theorem rF{x y:Value}(hi:i*2+2<=cs.length)(j:Nat):(lay cs (i*2) [x,y])[j]? =if j=i*2 then some x else if j=i*2+1 then some y else cs[j]? :=by
 rw [iW (by simpa using hi)]
 simp only [Xg,List.length_nil]
 by_cases h1:j=i*2
 . subst h1;simp
 . by_cases h2:j=i*2+1
   . subst h2;simp
   . rw [if_neg h1,if_neg h2,if_neg (by omega)]
theorem dv.set(c:dv cs cap l)(hi:i<l.length)(x:Hd):dv (lay cs (i*2) [.int .i64 x.id,.int .i64 x.key]) cap (l.set i x):=by
 have hl:=c.len
 have hle:=c.le
 have hb:i*2+2<=cs.length:=by omega
 refine⟨by rw [mE (by simpa using hb)];exact hl,by rw [Xd];exact hle,fun j hj=>?_⟩
 rw [Xd]at hj
 rw [rF hb,rF hb,jy]
 by_cases e:i=j
 . subst e;simp [hi]
 . rw [if_neg (by omega),if_neg (by omega),if_neg (by omega),if_neg (by omega),if_neg (by omega)]
   exact c.at0 j hj
theorem dv.setKey(c:dv cs cap l)(hi:i<l.length)(k:Int):dv (lay cs (i*2+1) [.int .i64 k]) cap (l.set i ⟨(l.getD i default).id,k⟩):=by
 have hl:=c.len
 have hle:=c.le
 have e:lay cs (i*2+1) [.int .i64 k]=lay cs (i*2) [.int .i64 (l.getD i default).id,.int .i64 k]:=by
  refine Xa fun j=>?_
  rw [rF (by omega),iW (by simp;omega)]
  simp only [Xg,List.length_nil]
  by_cases h1:j=i*2
  . subst h1;rw [if_neg (by omega),if_pos rfl];exact(c.at0 i hi).1
  . by_cases h2:j=i*2+1
    . subst h2;rw [if_pos (by omega)];simp
    . rw [if_neg (by omega),if_neg h1,if_neg h2]
 rw [e]
 exact c.set hi ⟨(l.getD i default).id,k⟩
end
theorem set_sw(l:List Hd)(i k:Nat):(l.set i (l.getD k default)).set k (l.getD i default)=sw l i k:=rfl
theorem jx.inj{f:Int->Option Value}{l:List Hd}(h:jx f l){i j:Nat}(hi:i<l.length)(hj:j<l.length)(e:(l.getD i default).id=(l.getD j default).id):i=j:=by
 have h1:=h.1 i hi
 have h2:=h.1 j hj
 rw [e,h2]at h1
 injection h1 with h1
 injection h1 with _ h1
 omega
theorem jx.swap{f:Int->Option Value}{l:List Hd}(h:jx f l){i k:Nat}(hi:i<l.length)(hk:k<l.length):
 jx (c8 (c8 f ((sw l i k).getD i default).id (some (.int .i64 i))) ((sw l i k).getD k default).id (some (.int .i64 k))) (sw l i k):=by
 have ei:=ik l hi hk i
 have ek:=ik l hi hk k
 rw [if_pos rfl]at ek
 refine⟨fun j hj=>?_,fun x v hx=>?_⟩
 . rw [gM]at hj
   have ej:=ik l hi hk j
   unfold c8
   by_cases e1:j=k
   . subst e1;rw [if_pos rfl]
   . rw [if_neg e1]at ej
     by_cases e2:j=i
     . subst e2
       rw [if_neg,if_pos rfl]
       rw [if_neg e1,if_pos rfl]at ei
       rw [ei,ek]
       intro e
       exact e1 (h.inj hk hi (by omega)).symm
     . rw [if_neg e2]at ej
       rw [if_neg,if_neg]
       . rw [ej];exact h.1 j hj
       . rw [ej,ei]
         intro e
         split at e
         . exact e2 (h.inj hj hi (by omega))
         . rename_i e3;rw [if_pos rfl]at e;exact e1 (h.inj hj hk (by omega))
       . rw [ej,ek]
         intro e
         exact e2 (h.inj hj hi (by omega))
 . unfold c8 at hx
   by_cases e1:x=((sw l i k).getD k default).id
   . exact⟨k,by rw [gM];exact hk,e1⟩
   . rw [if_neg e1]at hx
     by_cases e2:x=((sw l i k).getD i default).id
     . exact⟨i,by rw [gM];exact hi,e2⟩
     . rw [if_neg e2]at hx
       obtain⟨j,hj,e⟩:=h.2 x v hx
       refine⟨j,by rw [gM];exact hj,?_⟩
       have ej:=ik l hi hk j
       by_cases e3:j=k
       . subst e3
         exfalso
         rw [e]at e2
         by_cases e4:i=j
         . subst e4;rw [if_pos rfl]at ei;exact e2 (by rw [ei])
         . rw [if_neg e4,if_pos rfl]at ei;exact e2 (by rw [ei])
       . by_cases e4:j=i
         . subst e4;exfalso;rw [ek]at e1;exact e1 e
         . rw [if_neg e3,if_neg e4]at ej;rw [ej];exact e
structure eS(h:Hp)(bh bl bm cap:Nat)(n:Int)(l:List Hd):Prop where
 row:Row h bh [.slice (some ⟨bl,0,some 2⟩) l.length cap,.map (some bm),.int .i64 n] 1
 ex: ∃cs es c f,Row h bl cs 1/\h.get bm=some (.map es c)/\dv cs cap l/\cM es c f/\jx f l
 ne:bh≠bl/\bh≠bm/\bl≠bm
theorem eS.mo{M:Nat->Prop}{h h':Hp}{bh bl bm cap:Nat}{n:Int}{l:List Hd}(r:eS h bh bl bm cap n l)(g:Mo M h h')(h1: ¬M bh)(h2: ¬M bl)(h3: ¬M bm):eS h' bh bl bm cap n l:=by
 obtain⟨cs,es,c,f,a,b,d⟩:=r.ex
 exact⟨g.has (o:=.row _ 1) r.row h1,⟨cs,es,c,f,g.has (o:=.row _ 1) a h2,g.has (o:=.map es c) b h3,d⟩,r.ne⟩
theorem eS.mo1{M:Nat->Prop}{h h':Hp}{bh bl bm cap:Nat}{n:Int}{l:List Hd}(r:eS h bh bl bm cap n l)(g:Mo M h h')(hm: ∀c,c=bh\/c=bl\/c=bm-> ¬M c):eS h' bh bl bm cap n l:=
 r.mo g (hm _ (.inl rfl)) (hm _ (.inr (.inl rfl))) (hm _ (.inr (.inr rfl)))
theorem eS.lt{h:Hp}(ok:h.t.Sized h.n){bh bl bm cap:Nat}{n:Int}{l:List Hd}(r:eS h bh bl bm cap n l): ∀c,c=bh\/c=bl\/c=bm->c<h.n:=by
 obtain⟨cs,es,c,f,a,b,d⟩:=r.ex
 rintro c (rfl|rfl|rfl)
 . exact r.row.lt ok
 . exact a.lt ok
 . exact fm ok b
theorem eS.gr{h h':Hp}{bh bl bm cap:Nat}{n:Int}{l:List Hd}(r:eS h bh bl bm cap n l)(g:Gr h h'):eS h' bh bl bm cap n l:=r.mo (M:=NoM) g.fr (fun h=>h) (fun h=>h) (fun h=>h)
theorem St.init2{M:Nat->Prop}{h:Hp}(ok:h.t.Sized h.n){b1 b2:Nat}{o1 o2:Ob}(h1:Has h b1 o1)(h2:Has h b2 o2)(hne:b1≠b2)(m1:M b1)(m2:M b2):St M h h [(b1,o1),(b2,o2)] []:=by
 refine⟨Mo.refl ok,fun p hp=>?_,fun _ h=>(by cases h),by simp [keys,hne]⟩
 simp only [Xt,XE,or_false]at hp
 rcases hp with rfl|rfl
 . exact⟨.inr m1,h1⟩
 . exact⟨.inr m2,h2⟩
theorem St.init3{M:Nat->Prop}{h:Hp}(ok:h.t.Sized h.n){b1 b2 b3:Nat}{o1 o2 o3:Ob}(h1:Has h b1 o1)(h2:Has h b2 o2)(h3:Has h b3 o3)(n1:b1≠b2)(n2:b1≠b3)(n3:b2≠b3)(m1:M b1)(m2:M b2)(m3:M b3):St M h h [(b1,o1),(b2,o2),(b3,o3)] []:=by
 refine⟨Mo.refl ok,fun p hp=>?_,fun _ h=>(by cases h),by simp [keys,n1,n2,n3]⟩
 simp only [Xt,XE,or_false]at hp
 rcases hp with rfl|rfl|rfl
 . exact⟨.inr m1,h1⟩
 . exact⟨.inr m2,h2⟩
 . exact⟨.inr m3,h3⟩
end Go.Ab

end
section
namespace Go.Ab
theorem jx.push{f:Int->Option Value}{l:List Hd}(h:jx f l){x:Hd}(hx:x.id∉l.map Hd.id):jx (c8 f x.id (some (.int .i64 l.length))) (l++[x]):=by
 refine⟨fun i hi=>?_,fun y v hy=>?_⟩
 . unfold c8
   simp at hi
   by_cases e:i=l.length
   . subst e
     have:(l++[x]).getD l.length default=x:=by simp [zN]
     rw [this,if_pos rfl]
   . rw [jM l _ (by omega),if_neg ?_]
     . exact h.1 i (by omega)
     . intro e2
       apply hx
       have hil:i<l.length:=by omega
       refine List.mem_map.2 ⟨l.getD i default,?_,by omega⟩
       rw [zN,List.getElem?_eq_getElem hil]
       exact List.getElem_mem hil
 . unfold c8 at hy
   by_cases e:y=x.id
   . refine⟨l.length,by simp,?_⟩
     have:(l++[x]).getD l.length default=x:=by simp [zN]
     rw [this];exact e
   . rw [if_neg e]at hy
     obtain⟨i,hi,e2⟩:=h.2 y v hy
     exact⟨i,by simp;omega,by rw [jM l _ hi];exact e2⟩
theorem jx.cut{f:Int->Option Value}{l:List Hd}(h:jx f l){m:Nat}(hm:l.length=m+1):jx (c8 f (l.getD m default).id none) (l.take m):=by
 refine⟨fun i hi=>?_,fun y v hy=>?_⟩
 . rw [zY]at hi
   rw [getD_take l (by omega)]
   unfold c8
   rw [if_neg ?_]
   . exact h.1 i (by omega)
   . intro e
     have:=h.inj (i:=i) (j:=m) (by omega) (by omega) (by omega)
     omega
 . unfold c8 at hy
   by_cases e:y=(l.getD m default).id
   . rw [if_pos e]at hy;cases hy
   . rw [if_neg e]at hy
     obtain⟨i,hi,e2⟩:=h.2 y v hy
     have:i≠m:=fun e3=>by subst e3;exact e e2
     exact⟨i,by rw [zY];omega,by rw [getD_take l (by omega)];exact e2⟩
theorem jx.setKey{f:Int->Option Value}{l:List Hd}(h:jx f l){i:Nat}(k:Int):jx f (l.set i ⟨(l.getD i default).id,k⟩):=by
 have e: ∀j,((l.set i ⟨(l.getD i default).id,k⟩).getD j default).id=(l.getD j default).id:=fun j=>by
  rw [jy]
  split
  . rename_i e;rw [e.1]
  . rfl
 refine⟨fun j hj=>?_,fun y v hy=>?_⟩
 . rw [e];exact h.1 j (by rwa [Xd]at hj)
 . obtain⟨j,hj,e2⟩:=h.2 y v hy
   exact⟨j,by rwa [Xd],by rw [e];exact e2⟩
theorem idxF_nil:jx (fun _=>none) []:=⟨fun i hi=>by simp at hi,fun x v h=>by cases h⟩
theorem dv.take{cs:List Value}{cap:Nat}{l:List Hd}(c:dv cs cap l)(m:Nat):dv cs cap (l.take m):=
 ⟨c.len,Xp (by rw [zY];omega) c.le,fun i hi=>by
  rw [zY]at hi
  rw [getD_take l (by omega)]
  exact c.at0 i (by omega)⟩
theorem dv.push{cs cs':List Value}{cap cap':Nat}{l:List Hd}(c:dv cs cap l){x:Hd}(hl:cs'.length=cap'*2)(hc:l.length<cap')(h1: ∀j,j<l.length*2->cs'[j]? =cs[j]?)(h2:cs'[l.length*2]? =some (.int .i64 x.id)/\cs'[l.length*2+1]? =some (.int .i64 x.key)):dv cs' cap' (l++[x]):=by
 refine⟨hl,by simp;omega,fun i hi=>?_⟩
 simp at hi
 by_cases e:i=l.length
 . subst e
   have:(l++[x]).getD l.length default=x:=by simp [zN]
   rw [this];exact h2
 . rw [jM l _ (by omega),h1 _ (by omega),h1 _ (by omega)]
   exact c.at0 i (by omega)
theorem xq{E:Env}{t e:TypeId}{b k len cap n:Nat}{kd:IntKind}(hu:E.und t=some (.slice e))(hs:E.sz e=some k)(hn:n<=cap):dQ E t (.slice (some ⟨b,0,some k⟩) len cap) none (some (.int kd (n:Int))) none=some (.slice (some ⟨b,0,some k⟩) n cap):=by
 have nat: ∀n:Nat,fU (n:Int)=some n:=fun n=>rfl
 simp only [dQ,hu,eg,dW,nat,zV hn,cond_true,hs,Xq,cond_false,XS,Xj,XF,XD]
 cases Xi cap 0<;>rfl
section
variable{M:Nat->Prop}{h0 h:Hp}{L:List (Nat×Ob)}{G:List GL}{E:Env}{t tx e:TypeId}{by_:Nat}{zs:List Value}
theorem St.appH{bl cap:Nat}{cs:List Value}{l:List Hd}(S:St M h0 h ((bl,.row cs 1)::L) G)(C:dv cs cap l)(hu:E.und t=some (.slice e))(he:eB E e by_ 2 zs)(hb:0<by_)(hb2:by_<=100)(hx:az E tx=some false){x:Hd}{xv:Value}(hsrc:aO h 2 xv=some (1,jL x))(hl:l.length<1000000){ts:List TypeId}:
 ∃h' w,cL E h (t::tx::ts) (.slice (some ⟨bl,0,some 2⟩) l.length cap) xv=some (h',w)/\ ∃bl' cap' cs',w=.slice (some ⟨bl',0,some 2⟩) (l.length+1) cap'/\St M h0 h' ((bl',.row cs' 1)::L) G/\dv cs' cap' (l++[x])/\(bl'=bl\/h.n<=bl'):=by
 obtain⟨⟨i,hi,rfl,hsz⟩,hz,hl2⟩:=he
 have hr:Row h bl cs 1:=S.row m0
 have clen:=C.len
 by_cases hc:l.length+1<=cap
 . obtain⟨y,h1,h2⟩:=hr.store S.ok ono (o:=l.length*2) (vs:=jL x) (by rw [jw];omega) rfl
   refine⟨h.put bl y,_,?_,bl,cap,_,rfl,S.put (i:=0) rfl h2,?_,.inl rfl⟩
   . simp only [cL,hx,iX,hu,hi,hsz,hsrc]
     unfold eJ
     rw [zV hc]
     simp only [cond_true,jL,hsz,Xr]
     unfold jL at h1
     rw [h1]
   . refine C.push (by rw [mE (by rw [jw];omega)];exact clen) (by omega) (fun j hj=>?_) ⟨?_,?_⟩
     . rw [iW (by rw [jw];omega),if_neg (by omega)]
     . rw [iW (by rw [jw];omega),if_pos ⟨Xl _,by rw [jw];omega⟩,Nat.sub_self];rfl
     . rw [iW (by rw [jw];omega),if_pos ⟨by omega,by rw [jw];omega⟩,Nat.add_sub_cancel_left];rfl
 . have ecap:cap=l.length:=by have:=C.le;omega
   obtain⟨tr,el,hget,hsz',htr⟩:=hr
   have hgt:iQ tr cs.length 0 (l.length*2) (jL x)=some (tr.pushAll cs.length (jL x),cs.length+2):=by
    unfold iQ
    rw [show l.length*2=cs.length by omega,XD,XD];rfl
   have T:=S.dead.new (x:=.cells (tr.pushAll cs.length (jL x)) (cs.length+2) e 1) (o:=.row (cs++jL x) 1) (by
    refine⟨tr.pushAll cs.length (jL x),e,?_,?_,fun n=>?_⟩
    . rw [Hp.get_new _ _ S.dead.ok,if_pos rfl,Xh];rfl
    . rw [Xh];exact Tr.sized_pushAll _ hsz'
    . rw [Tr.get_pushAll _ _ _ hsz',Xw]
      split
      . exact htr n
      . rfl)
   refine⟨_,.slice (some ⟨h.n,0,some 2⟩) (l.length+1) (l.length+1),?_,h.n,l.length+1,_,rfl,T,?_,.inr (Xl _)⟩
   . simp only [cL,hx,iX,hu,hi,hsz,hsrc]
     unfold eJ
     have hcap:Xu (l.length+1) cap=false:=by
      cases hx:Xu (l.length+1) cap with
      |false=>rfl
      |true=>exact absurd (lbt hx) (by omega)
     rw [hcap]
     simp only [cond_false]
     have hguard:(Xu ((l.length+1)*(i.bytes+1)) 70368744177664&&Nat.blt 0 i.bytes)=true:=by
      have:(l.length+1)*(i.bytes+1)<=1000000*101:=Nat.mul_le_mul (by omega) (by omega)
      rw [zV (by omega)]
      simp only [Bool.true_and]
      rw [XP];exact hb
     have hzl:Xi zs.length i.size=true:=by rw [hl2,hsz];rfl
     rw [hguard,hz]
     simp only [cond_true,hzl]
     unfold lZ
     simp only [hget,hsz,hgt]
     rfl
   . refine C.push (by rw [Xh,jw];omega) (by omega) (fun j hj=>?_) ⟨?_,?_⟩
     . rw [zR (by omega)]
     . rw [zP (by omega),show l.length*2-cs.length=0 by omega];rfl
     . rw [zP (by omega),show l.length*2+1-cs.length=1 by omega];rfl
theorem St.appH0(S:St M h0 h L G)(hu:E.und t=some (.slice e))(he:eB E e by_ 2 zs)(hb:0<by_)(hb2:by_<=100)(hx:az E tx=some false){x:Hd}{xv:Value}(hsrc:aO h 2 xv=some (1,jL x)){ts:List TypeId}:
 ∃h' w,cL E h (t::tx::ts) (.slice none 0 0) xv=some (h',w)/\ ∃bl' cap' cs',w=.slice (some ⟨bl',0,some 2⟩) 1 cap'/\St M h0 h' ((bl',.row cs' 1)::L) G/\dv cs' cap' [x]/\h.n<=bl':=by
 obtain⟨⟨i,hi,rfl,hsz⟩,hz,hl2⟩:=he
 have T:=S.new (x:=.cells (Tr.ofList (jL x)) 2 e 1) (o:=.row (jL x) 1) (mU S.ok (jL x) e 1)
 refine⟨_,.slice (some ⟨h.n,0,some 2⟩) 1 1,?_,h.n,1,_,rfl,T,⟨rfl,by simp,fun i hi=>?_⟩,Xl _⟩
 . simp only [cL,hx,iX,hu,hi,hsz,hsrc]
   unfold eJ
   have hcap:Xu (0+1) 0=false:=rfl
   rw [hcap]
   simp only [cond_false]
   have hguard:(Xu ((0+1)*(i.bytes+1)) 70368744177664&&Nat.blt 0 i.bytes)=true:=by
    rw [zV (by omega)]
    simp only [Bool.true_and]
    rw [XP];exact hb
   have hzl:Xi zs.length i.size=true:=by rw [hl2,hsz];rfl
   rw [hguard,hz]
   simp only [cond_true,hzl]
   unfold lZ
   rw [show Xi 0 0=true from rfl,hsz]
   rfl
 . have:i=0:=by simpa using hi
   subst this;exact⟨rfl,rfl⟩
theorem St.rowS{bh bl bm n cap c:Nat}{N:Int}{cs:List Value}{es:List (Value×Value×Nat)}{l:List Hd}{f:Int->Option Value}(S:St M h0 h [(bl,.row cs 1),(bh,.row [.slice (some ⟨bl,0,some 2⟩) n cap,.map (some bm),.int .i64 N] 1),(bm,.map es c)] [])(C:dv cs cap l)(hn:n=l.length)(MI:cM es c f)(IF:jx f l):eS h bh bl bm cap N l:=by
 subst hn
 have ap:=S.apart
 simp only [keys,Xe,List.map_nil,List.filterMap_nil,List.append_nil,Xo,Xt,XE,or_false,not_or]at ap
 exact⟨S.row m1,⟨cs,es,c,f,S.row m0,(S.own _ m2).2,C,MI,IF⟩,fun e=>ap.1.1 e.symm,ap.2.1,ap.1.2⟩
end
theorem mR{ρ:Operand->Value}{b:Bool}{t:TypeId}{a v:Operand}{h h':Hp}:cb ρ b (.store t a v) h h'=(match ρ a with| .pointer (some a)=>some (.blk a.block)|_=>none):=by
 simp only [cb,dr,iP,d6,touch,cond_false]
 cases ρ a<;>first|rfl|(rename_i x;cases x<;>rfl)
theorem vm{ρ:Operand->Value}{b:Bool}{x:Operand}{ts:Array TypeId}{h h':Hp}:cb ρ b (.call ⟨.builtin .len,#[x],ts⟩) h h'=(match ρ x with| .map (some r)=>some (.blk r)| .slice (some a) _ _=>some (.blk a.block)|_=>none):=by
 simp only [cb,dr,iP,d6,touch,cond_false]
 cases ρ x<;>first|rfl|(rename_i x;cases x<;>rfl)|(rename_i x _ _;cases x<;>rfl)
theorem dn_del{E:Env}{cx:Cx}{Q:ey}{a:List Oper}{q:Nat}{ps:List (Nat×Nat)}{o:Oper}{os:List Oper}{i:Nat}{k:List Fr}{l:Loc}{tf:Hp->List (Nat×Tch)}{h:Hp}{t:TypeId}{m key:Value}{P:Hp->Prop}(hx: ∃h',kH E h t m key=some h'/\P h')
 (hk: ∀h',P h'->Run E (lim E) cx Q (.opsD a q ps os (i+1) (tf h')::k) .normal (l.put o.dst (.tuple #[])) h'):DN E cx Q a q ps o os i k l tf (delR E h t m key):=by
 obtain⟨h',e,hp⟩:=hx
 unfold delR
 rw [e]
 exact hk h' hp
structure bj(h:Hp)(F:List Nat)(p:Value)(N:Nat)(K:Nat->Option Int):Prop where
 ex: ∃bh bm l,p=ptrTo bh/\kQ l/\gH l K/\(∀x∈l,x.id<N)/\
  ((l=[]/\F=[bh,bm]/\bh≠bm/\Row h bh [.slice none 0 0,.map (some bm),.int .i64 N] 1/\ ∃es c,h.get bm=some (.map es c)/\cM es c (fun _=>none))\/ ∃bl cap,F=[bh,bl,bm]/\eS h bh bl bm cap N l)
theorem bj.mo{M:Nat->Prop}{h h':Hp}{F:List Nat}{p:Value}{N:Nat}{K:Nat->Option Int}(a:bj h F p N K)(g:Mo M h h')(hm: ∀b∈F,¬M b):bj h' F p N K:=by
 obtain⟨bh,bm,l,e,h1,h2,h3,h4⟩:=a.ex
 refine⟨bh,bm,l,e,h1,h2,h3,?_⟩
 rcases h4 with⟨k1,rfl,k3,k4,es,c,k5,k6⟩|⟨bl,cap,rfl,k⟩
 . exact .inl ⟨k1,rfl,k3,g.has (o:=.row _ 1) k4 (hm _ (by simp)),es,c,g.has (o:=.map es c) k5 (hm _ (by simp)),k6⟩
 . exact .inr ⟨bl,cap,rfl,k.mo g (hm _ (by simp)) (hm _ (by simp)) (hm _ (by simp))⟩
theorem bj.gr{h h':Hp}{F:List Nat}{p:Value}{N:Nat}{K:Nat->Option Int}(a:bj h F p N K)(g:Gr h h'):bj h' F p N K:=a.mo (M:=NoM) g.fr (fun _ _ h=>h)
theorem bj.lt{h:Hp}(ok:h.t.Sized h.n){F:List Nat}{p:Value}{N:Nat}{K:Nat->Option Int}(a:bj h F p N K): ∀b∈F,b<h.n:=by
 obtain⟨bh,bm,l,e,h1,h2,h3,h4⟩:=a.ex
 rcases h4 with⟨k1,rfl,k3,k4,es,c,k5,k6⟩|⟨bl,cap,rfl,k⟩
 . intro b hb
   simp at hb
   rcases hb with rfl|rfl
   . exact k4.lt ok
   . exact fm ok k5
 . intro b hb
   simp at hb
   exact k.lt ok b hb
theorem rO{l:List Hd}{K:Nat->Option Int}(h:gH l K){N:Nat}(hN: ∀x∈l,x.id<N):l.length<=N:=by
 have:=nu N (l.map Hd.id) h.1 (fun x hx=>by obtain⟨y,hy,rfl⟩:=List.mem_map.1 hx;exact hN y hy)
 simpa using this
end Go.Ab

end
section
namespace Go.Ab
def qG(E:Env)(g:FuncId)(pre post:List Value)(h0:Hp)(D:Nat->Prop)(xs:List (List Value)):Prop:=
 ∀lb J Z,(∀v h,¬Z (.pan v) h)->Yld E lb J Z xs-> ∀h F,ItS h0 D h F->J 0 h F->dS E g (pre++[.func (.yield lb) #[] #[]]++post) none h (YQ J Z xs.length)
theorem iter_useN{E:Env}{g:FuncId}{pre post:List Value}{h0:Hp}{D:Nat->Prop}{xs:List (List Value)}(H:qG E g pre post h0 D xs){lb:Nat}{J:Nat->Hp->List Nat->Prop}{Z:Out->Hp->Prop}(hz: ∀v h,¬Z (.pan v) h)(Y:Yld E lb J Z xs)
 {h:Hp} {F:List Nat} (g0:Mo (fun b=> ¬D b) h0 h) (ha: ∀b∈F,b<h0.n-> ¬D b) (hj:J 0 h F):dS E g (pre++[.func (.yield lb) #[] #[]]++post) none h (YQ J Z xs.length):=
 H lb J Z hz Y h F ⟨g0.ok,g0.n,fun b hb hd=>g0.get b hb (fun hn=>hn hd),fun b hb h=>ha b hb h.1 h.2,(Y.lt 0 h F hj).2⟩ hj
theorem dn_yield{E:Env}{cx:Cx}{Q:ey}{a:List Oper}{q:Nat}{ps:List (Nat×Nat)}{o:Oper}{os:List Oper}{i:Nat}{k:List Fr}{l:Loc}{tf:Hp->List (Nat×Tch)}{h0 h:Hp}{D:Nat->Prop}{lb j:Nat}{J:Nat->Hp->List Nat->Prop}{Z:Out->Hp->Prop}{xs:List (List Value)}{x:List Value}{F:List Nat}
 (hz: ∀v h,¬Z (.pan v) h) (Y:Yld E lb J Z xs) (s:ItS h0 D h F) (hj:J j h F) (hx:xs[j]? =some x)
 (k1: ∀h' F',J (j+1) h' F'->ItS h0 D h' F'->Mo (· ∈F) h h'->(∀b∈F',b∈F\/h.n<=b)->Run E (lim E) cx Q (.opsD a q ps os (i+1) (tf h')::k) .normal (l.put o.dst (.bool true)) h')
 (k2: ∀h',Z (.ret (.bool false)) h'->h'.t.Sized h'.n->Run E (lim E) cx Q (.opsD a q ps os (i+1) (tf h')::k) .normal (l.put o.dst (.bool false)) h'):DN E cx Q a q ps o os i k l tf (some (.yield lb x,h)):=by
 obtain⟨q',h',e1,e2⟩:=Y.round j x h F hx hj
 refine⟨q',h',e1,?_⟩
 rcases e2 with⟨rfl,F',a,b,c⟩|⟨rfl,a,b⟩|⟨⟨v,rfl⟩,a⟩
 . exact k1 h' F' a (s.mo b c (Y.lt _ _ _ a).2) b c
 . exact k2 h' a b
 . exact hz v h' a
def ir(h h':Hp):Prop:= ∀b,b<h.n->h'.get b=h.get b
theorem ir.load{h h':Hp}(ok:h.t.Sized h.n)(g:ir h h'){b o n:Nat}{l:List Value}(e:h.load b o n=some l):h'.load b o n=some l:=by
 have:=g b (bI ok e)
 unfold Hp.load at e⊢
 rw [this];exact e
theorem ir.row{h h':Hp}(ok:h.t.Sized h.n)(g:ir h h'){b:Nat}{l:List Value}{md:Nat}(r:Row h b l md):Row h' b l md:=Row.of_get (g b (r.lt ok)) r
theorem aA.keep{α:Type}{h h':Hp}{k:Nat}{enc:α->List Value}{v:Value}{xs:List α}(ok:h.t.Sized h.n)(g:ir h h')(s:aA h k enc v xs):aA h' k enc v xs:=by
 rcases s with s|⟨b,o,s,c,h1,h2,h3⟩
 . exact .inl s
 . exact .inr ⟨b,o,s,c,h1,h2,g.load ok h3⟩
theorem fO.keep{h h':Hp}{v:Value}{m N:Nat}{R:Nat->List Nat}(ok:h.t.Sized h.n)(g:ir h h')(r:fO h m v N R):fO h' m v N R:=by
 obtain⟨bv,vs,h1,h0,h2,h3,h4⟩:=r
 exact⟨bv,vs,h1,h0,g.row ok h2,h3,fun i hi=>by
  obtain⟨w,a,b,c⟩:=h4 i hi
  exact⟨w,a,b.keep ok g,c⟩⟩
theorem bN.keep{h h':Hp}{m:Nat}{p:Value}{γ:Gra}(ok:h.t.Sized h.n)(g:ir h h')(n:bN h m p γ):bN h' m p γ:=by
 obtain⟨b,vx,vy,va,vo,vi,h1,h2,h3,h4,h5,h6,h7⟩:=n.ex
 exact⟨b,vx,vy,va,vo,vi,h1,g.row ok h2,⟨h3.X.keep ok g,h3.Y.keep ok g,h3.A.keep ok g⟩,h4.keep ok g,h5.keep ok g,h6,h7⟩
theorem Gr.keep{h h':Hp}(g:Gr h h'):ir h h':=g.get
theorem ir.trans{a b c:Hp}(x:ir a b)(n:a.n<=b.n)(y:ir b c):ir a c:=fun i hi=>(y i (Nat.lt_of_lt_of_le hi n)).trans (x i hi)
theorem ItS.keep{hq h0 h:Hp}{D:Nat->Prop}{F:List Nat}(s:ItS h0 D h F)(g:ir hq h0)(n:hq.n<=h0.n)(hd: ∀c,c<hq.n->D c):ir hq h:=fun b hb=>(s.data b (Nat.lt_of_lt_of_le hb n) (hd b hb)).trans (g b hb)
theorem sX{n:Int}(h1:0<=n)(h2:n<18446744073709551616):aq .u64 n=n:=by
 obtain⟨m,rfl⟩:=Int.eq_ofNat_of_zero_le h1
 show aq .u64 (.ofNat m)=_
 unfold aq
 simp only [hf,sgn,pw]
 have:Nat.blt m 18446744073709551616=true:=by rw [XP];omega
 rw [this];rfl
theorem b_andU{E:Env}{t:TypeId}{x y:Operand}{N:Nat}(h:N<4294967296):bq E .and t x y (.int .u64 (N:Int)) (.int .u64 4294967295)=some (.int .u64 (N:Int)):=by
 have e1:Nat.blt N 18446744073709551616=true:=by rw [XP];omega
 have e2:Nat.land N 4294967295=N:=by
  have:=Nat.and_two_pow_sub_one_eq_mod N 32
  rw [show(2 ^32-1:Nat)=4294967295 from rfl,show(2 ^32:Nat)=4294967296 from rfl,Nat.mod_eq_of_lt h]at this
  exact this
 have e3:=sX (n:=(N:Int)) (by omega) (by omega)
 have e4:pL .and .u64 (.ofNat N) (.ofNat 4294967295)=some (aq .u64 (.ofNat (Nat.land N 4294967295))):=by
  simp only [pL,pw]
  rw [e1];rfl
 show(pL .and .u64 (.ofNat N) (.ofNat 4294967295)).map _=_
 rw [e4,e2]
 show some (Value.int .u64 (aq .u64 (N:Int)))=_
 rw [e3]
theorem b_shrU{E:Env}{t:TypeId}{x y:Operand}{kd:IntKind}{N:Nat}(h:N<4294967296):bq E .shr t x y (.int .u64 (N:Int)) (.int kd 32)=some (.int .u64 0):=by
 have e:N/Nat.pow 2 (bif Xu 32 (bitsOf .u64)then 32 else bitsOf .u64)=0:=by
  show N/4294967296=0
  exact Nat.div_eq_of_lt h
 show(qv .shr .u64 (.ofNat N) (.ofNat 32)).map _=_
 show some (Value.int .u64 (.ofNat (N/Nat.pow 2 (bif Xu 32 (bitsOf .u64)then 32 else bitsOf .u64))))=_
 rw [e];rfl
end Go.Ab

end
section
namespace Go.Ab
theorem wj{E:Env}{t e:TypeId}{b n N:Nat}{kd:IntKind}(hu:E.und t=some (.slice e))(hs:E.sz e=some 1)(hn:n<N):dQ E t (.slice (some ⟨b,0,none⟩) N N) (some (.int kd (n:Int))) none none=some (.slice (some ⟨b,n,none⟩) (N-n) (N-n)):=by
 have nat: ∀n:Nat,fU (n:Int)=some n:=fun n=>rfl
 have hb:Xi N n=false:=by
  cases h:Xi N n with
  |false=>rfl
  |true=>have:=XN h;omega
 simp only [dQ,hu,eg,dW,nat,zV (Nat.le_of_lt hn),cond_true,hs,Xq,cond_false,hb,eH,Xs,Xr]
theorem uJ{E:Env}{t e:TypeId}{b n N k:Nat}{kd:IntKind}(hu:E.und t=some (.slice e))(hs:E.sz e=some k)(hn:n<=N):dQ E t (.slice (some ⟨b,0,none⟩) N N) none (some (.int kd (n:Int))) none=some (.slice (some ⟨b,0,none⟩) n N):=by
 have nat: ∀n:Nat,fU (n:Int)=some n:=fun n=>rfl
 simp only [dQ,hu,eg,dW,nat,zV hn,cond_true,hs,Xq,cond_false,eH,Xj,XF,XS]
 cases Xi N 0<;>rfl
section
variable{M:Nat->Prop}{h0 h:Hp}{L:List (Nat×Ob)}{G:List GL}{E:Env}{t e:TypeId}
theorem St.copyO(S:St M h0 h L G){i b o len cap b2 o2 m c2:Nat}{sp sp2:Option Nat}{cs l:List Value}(hi:L[i]? =some (b,.row cs 1))(hu:E.und t=some (.slice e))(hs:E.sz e=some 1)(hm:0<dL m len)(hl:h.load b2 o2 (dL m len*1)=some l)(hll:o+l.length<=cs.length)(hf:l.all iM=true){ts:List TypeId}:
 ∃h' w,copyV E h (t::ts) (.slice (some ⟨b,o,sp⟩) len cap) (.slice (some ⟨b2,o2,sp2⟩) m c2)=some (h',w)/\w=.int .i64 (dL m len:Nat)/\St M h0 h' (L.set i (b,.row (lay cs o l) 1)) G:=by
 obtain⟨y,h1,h2⟩:=(S.row (zS hi)).store S.ok ono (o:=o) (vs:=l) hll hf
 have len1:=load_len hl
 refine⟨h.put b y,_,?_,rfl,S.put hi h2⟩
 simp only [copyV,hu,hs,hl]
 cases l with
 |nil=>simp at len1;omega
 |cons x xs=>simp only [h1];rfl
end
theorem i9{a b:Nat}(h:a<=b):dL a b=a:=by unfold dL;rw [zV h];rfl
theorem qR{a b:Nat}(h:b<=a):dL a b=b:=by
 unfold dL
 cases hb:Xu a b with
 |false=>rfl
 |true=>have:=lbt hb;show a=b;omega
theorem qK{X Z:Value}{n c k:Nat}(hk:c<=k):lay (Xk n X++Xk k Z) n (Xk c X)=Xk (n+c) X++Xk (k-c) Z:=by
 refine Xa fun j=>?_
 rw [iW (by simp;omega),Xv,Xw,Xw,Xv,Xv,Xc,Xc,Xc,Xc,Xc]
 by_cases h1:j<n
 . rw [if_neg (by omega),if_pos h1,if_pos h1,if_pos (by omega),if_pos (by omega)]
 . by_cases h2:j<n+c
   . rw [if_pos (by omega),if_pos (by omega),if_pos h2,if_pos h2]
   . rw [if_neg (by omega),if_neg h1,if_neg h2]
     by_cases h3:j-n<k
     . rw [if_pos h3,if_pos (by omega)]
     . rw [if_neg h3,if_neg (by omega)]
theorem o6(z:Value): ∀n,aY [z] n=Xk n z
 |0=>rfl
 |n+1=>by simp [aY,o6 z n,List.replicate_succ]
def ClF(O:List Nat)(f:Int->Option Value):Prop:= ∀u:Nat,f (u:Int)=if u∈O then some (.int .i64 1)else none
end Go.Ab

end
section
namespace Go.Ab
section
variable{M:Nat->Prop}{h0 h h':Hp}{L L':List (Nat×Ob)}{G G':List GL}{Fh:List Nat}
theorem St.baseF(S:St M h0 h L G)(Fh:List Nat):St (fun c=>c∈keys L G\/c∈Fh) h h L G:=
 ⟨Mo.refl S.ok,fun p hp=>⟨.inr (.inl (gb hp)),(S.own p hp).2⟩,fun p hp=>⟨(S.gown p hp).1,fun b hb=>.inr (.inl (eC hp hb))⟩,S.apart⟩
theorem St.rebaseF(S:St M h0 h L G)(hF: ∀c∈Fh,h0.n<=c\/M c)(T:St (fun c=>c∈keys L G\/c∈Fh) h h' L' G'):St M h0 h' L' G':=by
 have hk: ∀b,h.n<=b\/(b∈keys L G\/b∈Fh)->h0.n<=b\/M b:=fun b hb=>hb.elim (fun hb=>.inl (Xp S.fr.n hb)) (fun hb=>hb.elim S.key_own (hF b))
 exact⟨S.fr.trans T.fr fun b hb=>(hb.elim S.key_own (hF b)).symm,fun p hp=>⟨hk _ (T.own p hp).1,(T.own p hp).2⟩,fun p hp=>⟨(T.gown p hp).1,fun b hb=>hk b ((T.gown p hp).2 b hb)⟩,T.apart⟩
theorem St.callF(S:St M h0 h L G){i b:Nat}{o o':Ob}(hi:L[i]? =some (b,o))(f:Mo (fun c=>c∈Fh\/c=b) h h')(hF: ∀c∈Fh,(M c\/h0.n<=c)/\c∉keys L G)(ho:Has h' b o'):St M h0 h' (L.set i (b,o')) G:=by
 have hb:=S.own _ (zS hi)
 have hkey:(keys L G)[i]? =some b:=mW hi
 refine⟨S.fr.trans f (fun c hc=>by rcases hc with hc|rfl;exact(hF c hc).1;exact hb.1.symm),fun p hp=>?_,fun p hp=>⟨(S.gown p hp).1.of_get fun c hc=>?_,(S.gown p hp).2⟩,?_⟩
 . rcases kC hp with rfl|⟨j,hj,hp⟩
   . exact⟨hb.1,ho⟩
   . have h1:=S.own p (zS hp)
     refine⟨h1.1,h1.2.of_get (f.get _ (h1.2.lt S.ok) fun e=>?_)⟩
     rcases e with e|e
     . exact(hF _ e).2 (gb (zS hp))
     . apply hj
       have h2:(keys L G)[j]? =some b:=by rw [mW hp];rw [e]
       exact nN S.apart h2 hkey
 . refine f.get c ((S.gown p hp).1.lt S.ok hc) fun e=>?_
   rcases e with e|e
   . exact(hF _ e).2 (eC hp hc)
   . subst e
     have h1:=S.apart
     unfold keys at h1
     rw [zQ]at h1
     exact h1.2.2 c (List.mem_map.2 ⟨_,zS hi,rfl⟩) c (List.mem_filterMap.2 ⟨p,hp,hc⟩) rfl
 . have:keys (L.set i (b,o')) G=keys L G:=by
    unfold keys
    congr 1
    rw [List.map_set]
    refine Xa fun j=>?_
    rw [Xb]
    split
    . rename_i e;subst e
      have:=(List.getElem?_eq_some_iff.1 hi).1
      rw [if_pos (by simpa using this),Xf,hi];rfl
    . rfl
   rw [this];exact S.apart
theorem St.stepF(S:St M h0 h L G)(f:Mo (· ∈Fh) h h')(hF: ∀c∈Fh,(M c\/h0.n<=c)/\c∉keys L G):St M h0 h' L G:=
 S.step f (fun c hc=>(hF c hc).1) (fun c hc hm=>(hF c hm).2 hc)
theorem St.permL(S:St M h0 h L G)(p:L'.Perm L):St M h0 h L' G:=
 ⟨S.fr,fun x hx=>S.own x (p.mem_iff.1 hx),S.gown,by
  have:(keys L' G).Perm (keys L G):=(p.map zU).append_right _
  exact this.nodup_iff.2 S.apart⟩
end
theorem St.mono{M M':Nat->Prop}{h0 h:Hp}{L:List (Nat×Ob)}{G:List GL}(S:St M h0 h L G)(hm: ∀b,M b->M' b):St M' h0 h L G:=
 ⟨S.fr.mono hm,fun p hp=>⟨(S.own p hp).1.imp (fun h=>h) (hm _),(S.own p hp).2⟩,fun p hp=>⟨(S.gown p hp).1,fun b hb=>((S.gown p hp).2 b hb).imp (fun h=>h) (hm _)⟩,S.apart⟩
theorem Dj.exm{B:List Arc}{s N:Nat}{O:List Nat}{D:Nat->Nat}{K:Nat->Option Int}{ex ex':Arc->Prop}(d:Dj B s N O D K ex)(h: ∀a∈B,ex a->ex' a):Dj B s N O D K ex':=
 ⟨d.i1,d.i2,d.i2f,d.i3,fun a ha hs hx=>d.i4 a ha hs (fun hh=>hx (h a ha hh)),d.i5,d.nd,d.lt⟩
def noteSl:Value->Option Tch
 | .map (some r)=>some (.blk r)
 | .slice (some a) _ _=>some (.blk a.block)
 |_=>none
theorem wC{ρ:Operand->Value}{b:Bool}{x y:Operand}{ts:Array TypeId}{h h':Hp}:cb ρ b (.call ⟨.builtin .append,#[x,y],ts⟩) h h'=noteSl (ρ x):=by
 simp only [cb,dr,iP,d6,touch,cond_false]
 cases ρ x<;>first|rfl|(rename_i x;cases x<;>rfl)|(rename_i x _ _;cases x<;>rfl)
theorem pair_x{x:Option Tch}:iT x none=true:=by
 cases x with
 |none=>rfl
 |some b=>cases b<;>rfl
theorem entry_nl{i:Nat}:bQ i []=none:=rfl
end Go.Ab

end
section
namespace Go.Ab
def SlW(h:Hp)(kd:IntKind)(v:Value)(xs:List Int):Prop:=(v=.slice none 0 0/\xs=[])\/ ∃b o c,v=.slice (some ⟨b,o,none⟩) xs.length c/\xs.length<=c/\h.load b o (xs.length*1)=some (xs.flatMap (encI kd))
theorem SlW.sl{h:Hp}{kd:IntKind}{v:Value}{xs:List Int}(s:SlW h kd v xs):aA h 1 (encI kd) v xs:=s.imp (fun h=>h) (fun⟨b,o,c,h1,h2,h3⟩=>⟨b,o,none,c,h1,h2,h3⟩)
theorem SlW.low{E:Env}{h:Hp}{kd kd':IntKind}{t e:TypeId}{v:Value}{xs:List Int}(hu:E.und t=some (.slice e))(hs:E.sz e=some 1)(s:SlW h kd v xs){n:Nat}(hn:n<=xs.length):
 ∃v',dQ E t v none (some (.int kd' (n:Int))) none=some v'/\aA h 1 (encI kd) v' (xs.take n)/\ ∀c,av v' c->av v c:=by
 have nat: ∀n:Nat,fU (n:Int)=some n:=fun n=>rfl
 rcases s with⟨rfl,rfl⟩|⟨b,o,c,rfl,h2,h3⟩
 . have:n=0:=by simpa using hn
   subst this
   refine⟨.slice none 0 0,?_,.inl ⟨rfl,rfl⟩,fun c hc=>hc⟩
   simp only [dQ,hu,eg,dW,nat,hs]
   rfl
 . refine⟨.slice (some ⟨b,o,none⟩) n c,?_,.inr ⟨b,o,none,c,?_,?_,?_⟩,fun c hc=>hc⟩
   . simp only [dQ,hu,eg,dW,nat,zV (Xp hn h2),cond_true,hs,Xq,cond_false,XS,eH,Xj,XF]
     by_cases hc:c=0
     . subst hc;rfl
     . rw [show Xi c 0=false by cases c with|zero=>exact absurd rfl hc|succ c=>rfl];rfl
   . rw [zY,XI hn]
   . rw [zY,XI hn];exact Xp hn h2
   . rw [zY,XI hn]
     have:=jv h3 (i:=0) (m:=n*1) (by omega)
     rw [XF,Xz]at this
     rw [this]
     congr 1
     refine Xa fun i=>?_
     have e4: ∀l:List Int,l.flatMap (encI kd)=l.map fun x=>.int kd x:=fun l=>by
      rw [XO,List.map_eq_flatMap,XO];rfl
     rw [e4,e4,Xs,List.map_take]
end Go.Ab

end
section
namespace Go.Ab
open Go.Proofs
set_option maxRecDepth 10000
open Tryz in
def Z0:=aj u3<|aj a3<|aj s3<|aj z3<|i3
open Tryz in
def Z1:=aj a1<|aj s1<|aj z1<|n1
open Tryz in
def Z2:=aj u2<|aj a2<|aj s2<|aj z2<|i2
open Tryz in
def Z3:=aj u4<|aj a4<|aj s4<|aj z4<|n4
open Tryz in
def Z4:=aj u33<|aj a33<|aj s33<|aj z33<|aj q33<|n33
open Tryz in
def Z5:=aj u24<|aj a24<|aj s24<|aj z24<|aj q24<|n24
open Tryz in
def Z6:=aj a31<|aj s31<|aj z31<|aj i31<|aj n31<|aj p31<|aj ff31<|d31
open Tryz in
def Z7:=aj u5<|aj a5<|aj s5<|aj z5<|i5
open Tryz in
def Z8:=aj a87<|aj s87<|aj z87<|aj i87<|aj n87<|aj p87<|aj ff87<|d87
open Tryz in
def Z9:=aj u6<|aj a6<|aj s6<|aj z6<|i6
open Tryz in
def Z10:=aj u32<|aj a32<|aj s32<|aj z32<|aj q32<|aj i32<|n32
open Tryz in
def Z11:=aj a151<|aj s151<|aj z151<|aj i151<|aj n151<|aj p151<|aj ff151<|d151
open Tryz in
def Z12:=aj u149<|aj a149<|aj s149<|aj z149<|aj q149<|n149
open Tryz in
def Z13:=aj u29<|aj a29<|aj s29<|aj z29<|aj q29<|n29
open Tryz in
def Z14:=aj a7<|aj s7<|aj z7<|aj i7<|aj n7<|aj p7<|aj ff7<|d7
open Tryz in
def Z15:=aj u45<|aj a45<|aj s45<|aj z45<|i45
open Tryz in
def Z16:=aj u182<|aj a182<|aj s182<|aj z182<|n182
open Tryz in
def Z17:=aj a8<|aj s8<|aj z8<|aj i8<|aj n8<|aj p8<|aj ff8<|d8
open Tryz in
def Z18:=aj u114<|aj a114<|aj s114<|aj z114<|aj q114<|n114
open Tryz in
def Z19:=aj u9<|aj a9<|aj s9<|aj z9<|n9
open Tryz in
def Z20:=aj a305<|aj s305<|aj z305<|aj i305<|aj n305<|aj p305<|aj ff305<|d305
open Tryz in
def Z21:=aj u51<|aj a51<|aj s51<|aj z51<|aj q51<|aj i51<|n51
open Tryz in
def Z22:=aj a121<|aj s121<|aj z121<|aj i121<|aj n121<|aj p121<|aj ff121<|d121
open Tryz in
def Z23:=aj u236<|aj a236<|aj s236<|aj z236<|aj q236<|aj i236<|n236
open Tryz in
def Z24:=aj a307<|aj s307<|aj z307<|aj i307<|aj n307<|aj p307<|aj ff307<|d307
open Tryz in
def Z25:=aj u48<|aj a48<|aj s48<|aj z48<|aj q48<|n48
open Tryz in
def Z26:=aj a152<|aj s152<|aj z152<|n152
open Tryz in
def Z27:=aj u10<|aj a10<|aj s10<|aj z10<|n10
open Tryz in
def Z28:=aj u303<|aj a303<|aj s303<|aj z303<|aj q303<|n303
open Tryz in
def Z29:=aj u12<|aj a12<|aj s12<|aj z12<|i12
open Tryz in
def Z30:=aj a310<|aj s310<|aj z310<|aj i310<|aj n310<|aj p310<|aj ff310<|d310
open Tryz in
def Z31:=aj a80<|aj s80<|aj z80<|aj i80<|aj n80<|aj p80<|aj ff80<|d80
open Tryz in
def Z32:=aj a169<|aj s169<|aj z169<|n169
open Tryz in
def Z33:=aj u63<|aj a63<|aj s63<|aj z63<|aj q63<|n63
open Tryz in
def Z34:=aj a103<|aj s103<|aj z103<|aj i103<|aj n103<|aj p103<|aj ff103<|d103
open Tryz in
def Z35:=aj a109<|aj s109<|aj z109<|aj i109<|aj n109<|aj p109<|aj ff109<|d109
open Tryz in
def Z36:=aj a20<|aj s20<|aj z20<|aj q20<|n20
open Tryz in
def Z37:=aj a13<|aj s13<|aj z13<|aj i13<|aj n13<|aj p13<|aj ff13<|d13
open Tryz in
def Z38:=aj a214<|aj s214<|aj z214<|n214
open Tryz in
def Z39:=aj u17<|aj a17<|aj s17<|aj z17<|aj q17<|aj i17<|n17
open Tryz in
def Z40:=aj u11<|aj a11<|aj s11<|aj z11<|n11
open Tryz in
def Z41:=aj a14<|aj s14<|aj z14<|aj i14<|aj n14<|aj p14<|aj ff14<|d14
open Tryz in
def Z42:=aj u163<|aj a163<|aj s163<|aj z163<|aj q163<|aj i163<|n163
open Tryz in
def Z43:=aj u164<|aj a164<|aj s164<|aj z164<|aj q164<|aj i164<|n164
open Tryz in
def Z44:=aj u165<|aj a165<|aj s165<|aj z165<|n165
open Tryz in
def Z45:=aj a167<|aj s167<|aj z167<|aj i167<|aj n167<|aj p167<|aj ff167<|d167
open Tryz in
def Z46:=aj a349<|aj s349<|aj z349<|aj i349<|aj n349<|aj p349<|aj ff349<|d349
open Tryz in
def Z47:=aj u15<|aj a15<|aj s15<|aj z15<|aj q15<|aj i15<|n15
open Tryz in
def Z48:=aj a339<|aj s339<|aj z339<|aj i339<|aj n339<|aj p339<|aj ff339<|d339
open Tryz in
def Z49:=aj a156<|aj s156<|aj z156<|n156
open Tryz in
def Z50:=aj u238<|aj a238<|aj s238<|aj z238<|n238
open Tryz in
def Z51:=aj a240<|aj s240<|aj z240<|aj i240<|aj n240<|aj p240<|aj ff240<|d240
open Tryz in
def Z52:=aj a220<|aj s220<|aj z220<|aj i220<|aj n220<|aj p220<|aj ff220<|d220
open Tryz in
def Z53:=aj u16<|aj a16<|aj s16<|aj z16<|aj q16<|aj i16<|n16
open Tryz in
def Z54:=aj u229<|aj a229<|aj s229<|aj z229<|i229
open Tryz in
def Z55:=aj u274<|aj a274<|aj s274<|aj z274<|aj q274<|aj i274<|n274
open Tryz in
def Z56:=aj u326<|aj a326<|aj s326<|aj z326<|i326
open Tryz in
def Z57:=aj u340<|aj a340<|aj s340<|aj z340<|n340
open Tryz in
def Z58:=aj a342<|aj s342<|aj z342<|aj i342<|n342
open Tryz in
def Z59:=aj u344<|aj a344<|aj s344<|aj z344<|i344
open Tryz in
def Z60:=aj a345<|aj s345<|aj z345<|n345
open Tryz in
def Z61:=aj u346<|aj a346<|aj s346<|aj z346<|i346
open Tryz in
def Z62:=aj u347<|aj a347<|aj s347<|aj z347<|i347
open Tryz in
def Z63:=aj a161<|aj s161<|aj z161<|n161
open Tryz in
def Z64:=aj a28<|aj s28<|aj z28<|aj i28<|aj n28<|aj p28<|aj ff28<|d28
open Tryz in
def Z65:=aj a19<|aj s19<|aj z19<|aj i19<|aj n19<|aj p19<|aj ff19<|d19
open Tryz in
def Z66:=aj u22<|aj a22<|aj s22<|aj z22<|aj q22<|n22
open Tryz in
def Z67:=aj a18<|aj s18<|aj z18<|aj i18<|aj n18<|aj p18<|aj ff18<|d18
open Tryz in
def Z68:=aj a187<|aj s187<|aj z187<|aj i187<|aj n187<|aj p187<|aj ff187<|d187
open Tryz in
def Z69:=aj u286<|aj a286<|aj s286<|aj z286<|aj q286<|n286
open Tryz in
def Z70:=aj a41<|aj s41<|aj z41<|aj q41<|n41
open Tryz in
def Z71:=aj u23<|aj a23<|aj s23<|aj z23<|i23
open Tryz in
def Z72:=aj u325<|aj a325<|aj s325<|aj z325<|aj q325<|aj i325<|n325
open Tryz in
def Z73:=aj a287<|aj s287<|aj z287<|n287
open Tryz in
def Z74:=aj a90<|aj s90<|aj z90<|aj i90<|aj n90<|aj p90<|aj ff90<|d90
open Tryz in
def Z75:=aj u92<|aj a92<|aj s92<|aj z92<|aj q92<|aj i92<|n92
open Tryz in
def Z76:=aj u36<|aj a36<|aj s36<|aj z36<|aj q36<|aj i36<|n36
open Tryz in
def Z77:=aj a38<|aj s38<|aj z38<|aj i38<|aj n38<|aj p38<|aj ff38<|d38
open Tryz in
def Z78:=aj a26<|aj s26<|aj z26<|aj i26<|aj n26<|aj p26<|aj ff26<|d26
open Tryz in
def Z79:=aj a47<|aj s47<|aj z47<|aj i47<|aj n47<|aj p47<|aj ff47<|d47
open Tryz in
def Z80:=aj a143<|aj s143<|aj z143<|aj i143<|aj n143<|aj p143<|aj ff143<|d143
open Tryz in
def Z81:=aj a235<|aj s235<|aj z235<|n235
open Tryz in
def Z82:=aj u315<|aj a315<|aj s315<|aj z315<|i315
open Tryz in
def Z83:=aj u255<|aj a255<|aj s255<|aj z255<|aj q255<|aj i255<|n255
open Tryz in
def Z84:=aj a259<|aj s259<|aj z259<|aj i259<|aj n259<|aj p259<|aj ff259<|d259
open Tryz in
def Z85:=aj a119<|aj s119<|aj z119<|n119
open Tryz in
def Z86:=aj a117<|aj s117<|aj z117<|n117
open Tryz in
def Z87:=aj a181<|aj s181<|aj z181<|n181
open Tryz in
def Z88:=aj a178<|aj s178<|aj z178<|n178
open Tryz in
def Z89:=aj a98<|aj s98<|aj z98<|aj i98<|aj n98<|aj p98<|aj ff98<|d98
def Tryz.FFt1227:=aj Z1<|aj Z2<|aj Z0<|aj Z3<|aj Z15<|aj Z52<|aj Z69<|Z73
theorem values{h0:Hp}(ok:h0.t.Sized h0.n){v:Value}(hv:Fl v):Ret zM 201 [v] h0 fun r h'=>Gr h0 h'/\ ∃b,r=.func (.func 227) #[] #[ptrTo b]/\h0.n<=b/\h'.load b 0 1=some [v]:=by
 have S:=Si ok
 refine ab (n:=4) (rs:=[.tmp 2]) rfl Tryz.e201 rfl rfl rfl (lbt rfl) ?_
 simp only [BS,Nat.reduceLT]
 refine ag (cI (by assumption)) S ?_;clear S;intro h b S n_b
 simp only [BS,LB,ac,Nat.reduceLT,Nat.reduceEqDiff]
 exact⟨S.gr,b,rfl,n_b,S.ld m0 rfl⟩
theorem rh{h0:Hp}(ok0:h0.t.Sized h0.n){v:Value}{b:Nat}{ps:List Pl}(hb:h0.load b 0 1=some [v])(hs:aA h0 6 jg v ps)(hlen:ps.length<1000):
 Iter zM 227 [] [ptrTo b] h0 (fun c=>c=b\/av v c) (ps.map fun p=>[.agg ⟨jg p⟩]):=by
 refine qU fun lb J Z Y h F s hj=>?_
 refine enter (n:=16) (rs:=[]) rfl Tryz.e227 rfl rfl rfl (lbt rfl) ?_
 have hb':=s.load ok0 hb (.inl rfl)
 have hs':=s.sl ok0 hs (fun b h=>.inr h)
 simp only [BS,LB,Nat.reduceLT,Tryz.FFt1227,hb',hs'.lenq]
 refine bA (fun(i:Nat) ρ h=>i<=ps.length/\ ∃F,ItS h0 (fun c=>c=b\/av v c) h F/\J i h F/\ρ 0=.func (.yield lb) #[] #[]/\ρ 5=v/\ρ 6=.int .i64 ps.length/\ρ 7=.int .i64 i) (fun i=>ps.length-i) ?_ 0 _ _ ?_
 . intro i ih ρ h ⟨hi,F,s,hj,r0,r5,r6,r7⟩
   by_cases hlt:i<ps.length
   . have hs':=s.sl ok0 hs (fun b h=>.inr h)
     obtain⟨c,o,hidx,hld⟩:=hs'.ix (kd:=.i64) encP_len hlt
     have S:=Si s.ok
     have w:aq .i64 ((i:Int)+1)=((i+1:Nat):Int):=by rw [wrap64]<;>omega
     simp only [BS,LB,Nat.reduceLT,Nat.reduceEqDiff,Tryz.FFt1227,r5,r6,r7,aP,hlt,hidx,hld]
     refine ag aF S ?_;clear S;intro h bb S n_bb
     simp only [BS,LB,Nat.reduceLT,Nat.reduceEqDiff,jg]
     refine aC (S.store (i:=0) rfl ?_ ?_ rfl rfl ?_ ono) ?_
     . exact(by exact Tryz.s220)
     . exact(by intro x e;cases e)
     . exact lbt rfl
     clear S;rintro h ⟨S,mo⟩;clear mo;simp only [LC,an,lay,XJ,XK,Nat.reduceAdd]at S
     simp only [BS,LB,Nat.reduceLT,Nat.reduceEqDiff,Tryz.FFt1227,r0,S.lds (b:=bb) (o:=0) (n:=6) m0 (lbt rfl)]
     refine gf Y (s.gr S.gr) (Y.gr _ _ _ _ hj S.gr) (i:=i) (by simp [hlt,jg]) ?_ ?_ ?_
     . intro h' F' a s' _ _
       simp only [BS,LB,Nat.reduceLT,Nat.reduceEqDiff,r7,w]
       exact ih (i+1) _ _ (by omega) ⟨by omega,F',s',a,by simp [aa,r0],by simp [aa,r5],by simp [aa,r6],by simp [aa]⟩
     . intro h' a _
       simp only [BS,LB,Nat.reduceLT,Nat.reduceEqDiff]
       exact iV rfl ⟨rfl,.inr (.inl ⟨_,rfl,a⟩)⟩
     . intro v h' a
       simp only [BS]
       exact hZ (cS ⟨rfl,.inr (.inr ⟨_,rfl,a⟩)⟩)
   . simp only [BS,LB,Nat.reduceLT,r6,r7,aP,hlt]
     have:i=ps.length:=by omega
     subst this
     exact dD (cS ⟨rfl,_,rfl,rfl,.inl ⟨_,F,rfl,by simpa using hj⟩⟩)
 . exact⟨by omega,F,s,hj,by simp [aa,cD],by simp [aa],by simp [aa],by simp [aa]⟩
def Tryz.FFt2140:=aj Z1<|aj Z2<|aj Z0<|aj Z3<|aj Z7<|aj Z15<|aj Z38<|aj Z52<|Z69
def Tryz.FFt2142:=aj Z1<|aj Z2<|aj Z0<|aj Z3<|aj Z7<|aj Z5<|aj Z13<|aj Z6<|aj Z15<|aj Z8<|aj Z38<|aj Z52<|Z69
def Tryz.FFt2202:=aj Z1<|aj Z2<|aj Z0<|aj Z3<|aj Z7<|aj Z9<|aj Z14<|aj Z17<|aj Z5<|aj Z13<|aj Z6<|aj Z15<|aj Z8<|aj Z52<|Z73
def l9(n0 n1:Nat)(v:Value)(h':Hp):Prop:= ∃gi a post,∃(ps:List Pl) (D:Nat->Prop),v=.func (.func gi) a post/\Iter zM gi a.toList post.toList h' D (ps.map fun p=>[.agg ⟨jg p⟩])/\(∀p∈ps,p.lo<=p.n/\p.n<p.hi)/\ ∀c,D c->c<n0\/n1<=c
theorem one_ok{h0:Hp}(ok:h0.t.Sized h0.n){c n lo hi:Int}(h1:lo<=n)(h2:n<hi):
 Ret zM 140 [.int .i64 c,.int .i64 n,.int .i64 lo,.int .i64 hi] h0 fun v h'=>Gr h0 h'/\l9 0 h0.n v h':=by
 have S:=Si ok
 refine ab (n:=16) (rs:=[.tmp 8]) rfl Tryz.e140 rfl rfl rfl (lbt rfl) ?_
 simp only [BS,LB,Nat.reduceLT,Nat.reduceEqDiff,Nat.reduceAdd,Tryz.FFt2140]
 refine ag (cm (by exact Tryz.u286) (by exact Tryz.e220E) (by decide) (by rfl)) S ?_;clear S;intro h b S n_b;simp only [LC,aY,bM,an,Nat.reduceMul,Nat.reduceAdd,Xj,Xr,Xs,XL]at S
 simp only [BS,LB,Nat.reduceLT,Nat.reduceEqDiff]
 have q:=S.fr.n
 refine step_ret (values S.ok bL) ?_;intro v h ⟨g,b2,e,n2,l2⟩;replace S:=S.call g;clear g
 subst e
 simp only [BS,LB,ac,Nat.reduceLT,Nat.reduceEqDiff]
 have hs:aA h 6 jg (.slice (some ⟨b,0,none⟩) 1 1) [⟨0,0,c,n,lo,hi⟩]:=.inr ⟨b,0,none,1,rfl,Xl _,S.lds (b:=b) (o:=0) (n:=1*6) m0 (lbt rfl)⟩
 exact⟨S.gr,_,#[],#[ptrTo b2],_,_,rfl,rh S.ok l2 hs (by simp),by intro p hp;simp at hp;subst hp;exact⟨h1,h2⟩,fun c hc=>by rcases hc with rfl|hc;exact .inr (by omega);cases hc;exact .inr n_b⟩
theorem shapes_ok{h0:Hp}(ok:h0.t.Sized h0.n){γ:Gra}(hγ:Good γ){vx vy va:Value}(ga:cU h0 vx vy va γ):
 Ret zM 142 [fW γ vx vy va] h0 fun v h'=>Gr h0 h'/\l9 0 h0.n v h':=by
 have S:=Si ok
 have n1:=hγ.n1
 have n2:=hγ.n2
 have w:aq .i64 ((γ.nodes:Int)+1)=((γ.nodes+1:Nat):Int):=by rw [wrap64]<;>omega
 refine ab (n:=22) (rs:=[.tmp 2]) rfl Tryz.e142 rfl rfl rfl (lbt rfl) ?_
 simp only [BS,Nat.reduceLT,fW]
 refine ag (aZ (by intro x e;cases e)) S ?_;clear S;intro h b S n_b;simp only [an]at S
 simp only [BS,LB,Nat.reduceLT,Nat.reduceEqDiff,Nat.reduceAdd,Tryz.FFt2142,ga.X.lenq,ga.Y.lenq,w,S.ld (b:=b) (o:=0) m0 rfl,S.ld (b:=b) (o:=1) m0 rfl,S.ld (b:=b) (o:=2) m0 rfl]
 refine ag (cm (by exact Tryz.u286) (by exact Tryz.e220E) (by decide) (by rfl)) S ?_;clear S;intro h b1 S n_b1;simp only [LC,aY,bM,an,Nat.reduceMul,Nat.reduceAdd,Xj,Xr,Xs,XL]at S
 simp only [BS,LB,Nat.reduceLT,Nat.reduceEqDiff]
 have q:=S.fr.n
 refine step_ret (values S.ok bL) ?_;intro v h ⟨g,b2,e,n2',l2⟩;replace S:=S.call g;clear g
 subst e
 simp only [BS,LB,ac,Nat.reduceLT,Nat.reduceEqDiff]
 have hs:aA h 6 jg (.slice (some ⟨b1,0,none⟩) 2 2) [⟨0,0,6,γ.X.length,γ.nodes,(γ.nodes+1:Nat)⟩,⟨0,1,6,γ.Y.length,γ.nodes,(γ.nodes+1:Nat)⟩]:=.inr ⟨b1,0,none,2,rfl,Xl _,S.lds (b:=b1) (o:=0) (n:=2*6) m0 (lbt rfl)⟩
 refine⟨S.gr,_,#[],#[ptrTo b2],_,_,rfl,rh S.ok l2 hs (by simp),?_,fun c hc=>by rcases hc with rfl|hc;exact .inr (by omega);cases hc;exact .inr n_b1⟩
 intro p hp
 have:=hγ.lX
 have:=hγ.lY
 simp at hp
 rcases hp with rfl|rfl<;>(simp only [];omega)
theorem nodes_ok{h0:Hp}(ok:h0.t.Sized h0.n){vx vy va vn:Value}:Ret zM 144 [.agg ⟨[vn,vx,vy,va]⟩] h0 fun v h'=>Gr h0 h'/\ ∃b,v=.func (.func 202) #[] #[ptrTo b]/\h0.n<=b/\Row h' b [vn,vx,vy,va] 1:=by
 have S:=Si ok
 refine ab (n:=4) (rs:=[.tmp 2]) rfl Tryz.e144 rfl rfl rfl (lbt rfl) ?_
 simp only [BS,Nat.reduceLT]
 refine ag (aZ (by intro x e;cases e)) S ?_;clear S;intro h b S n_b;simp only [an]at S
 simp only [BS,LB,ac,Nat.reduceLT,Nat.reduceEqDiff]
 exact⟨S.gr,b,rfl,n_b,S.row m0⟩
theorem arcs_ok{h0:Hp}(ok:h0.t.Sized h0.n){vx vy va vn:Value}:Ret zM 147 [.agg ⟨[vn,vx,vy,va]⟩] h0 fun v h'=>Gr h0 h'/\ ∃b,v=.func (.func 203) #[] #[ptrTo b]/\h0.n<=b/\Row h' b [vn,vx,vy,va] 1:=by
 have S:=Si ok
 refine ab (n:=4) (rs:=[.tmp 2]) rfl Tryz.e147 rfl rfl rfl (lbt rfl) ?_
 simp only [BS,Nat.reduceLT]
 refine ag (aZ (by intro x e;cases e)) S ?_;clear S;intro h b S n_b;simp only [an]at S
 simp only [BS,LB,ac,Nat.reduceLT,Nat.reduceEqDiff]
 exact⟨S.gr,b,rfl,n_b,S.row m0⟩
def plN(X Y:List Int):List Pl:=(zX X.length).flatMap fun(i:Nat)=>[⟨i,0,7,X.getD i 0,-2147483648,2147483648⟩,⟨i,1,7,Y.getD i 0,-2147483648,2147483648⟩]
theorem plN_len(X Y:List Int):(plN X Y).length=2*X.length:=by
 unfold plN
 rw [Xn]
 simp [Xx]
 omega
theorem plN_at(X Y:List Int){i:Nat}(hi:i<X.length):(plN X Y)[2*i]? =some ⟨i,0,7,X.getD i 0,-2147483648,2147483648⟩/\(plN X Y)[2*i+1]? =some ⟨i,1,7,Y.getD i 0,-2147483648,2147483648⟩:=by
 unfold plN
 have key: ∀(n j:Nat) (f:Nat->Pl) (k:Nat->Pl),j<n->((zX n).flatMap fun i=>[f i,k i])[2*j]? =some (f j)/\((zX n).flatMap fun i=>[f i,k i])[2*j+1]? =some (k j):=by
  intro n
  induction n with
  |zero=>intro j f k hj;omega
  | succ n ih=>
    intro j f k hj
    have hlen:((zX n).flatMap fun i=>[f i,k i]).length=2*n:=by rw [Xn];simp [Xx];omega
    rw [XG,XQ]
    by_cases h:j<n
    . rw [zR (by omega),zR (by omega)];exact ih j f k h
    . have:j=n:=by omega
      subst this
      rw [zP (by omega),zP (by omega),hlen]
      simp
 exact key _ _ _ _ hi
theorem zu{h0:Hp}(ok0:h0.t.Sized h0.n){vx vy va vn:Value}{b:Nat}{X Y:List Int}(hb:Row h0 b [vn,vx,vy,va] 1)(hX:aA h0 1 (encI .i64) vx X)(hY:aA h0 1 (encI .i64) vy Y)(hl:X.length=Y.length)(hlen:X.length<1000):
 Iter zM 202 [] [ptrTo b] h0 (fun c=>c=b\/av vx c\/av vy c) ((plN X Y).map fun p=>[.agg ⟨jg p⟩]):=by
 refine qU fun lb J Z Y' h F s hj=>?_
 refine enter (n:=38) (rs:=[]) rfl Tryz.e202 rfl rfl rfl (lbt rfl) ?_
 have l1:=s.load ok0 (hb.load1 (o:=1) rfl) (.inl rfl)
 simp only [BS,LB,Nat.reduceLT,Nat.reduceEqDiff,Tryz.FFt2202,l1,hX.lenq]
 refine bA (fun(i:Nat) ρ h=>i<=X.length/\ ∃F,ItS h0 (fun c=>c=b\/av vx c\/av vy c) h F/\J (2*i) h F/\ρ 0=.func (.yield lb) #[] #[]/\ρ 1=ptrTo b/\ρ 8=.int .i64 X.length/\ρ 9=.int .i64 i) (fun i=>X.length-i) ?_ 0 _ _ ?_
 . intro i ih ρ h ⟨hi,F,s,hj,r0,r1,r8,r9⟩
   by_cases hlt:i<X.length
   . have hX':=s.sl ok0 hX (fun b h=>.inr (.inl h))
     have hY':=s.sl ok0 hY (fun b h=>.inr (.inr h))
     have l1:=s.load ok0 (hb.load1 (o:=1) rfl) (.inl rfl)
     have l2:=s.load ok0 (hb.load1 (o:=2) rfl) (.inl rfl)
     obtain⟨c,o,hidx,hld⟩:=hX'.ix (kd:=.i64) (dV _) hlt
     obtain⟨c2,o2,hidx2,hld2⟩:=hY'.ix (kd:=.i64) (dV _) (i:=i) (by omega)
     have S:=Si s.ok
     have w:aq .i64 ((i:Int)+1)=((i+1:Nat):Int):=by rw [wrap64]<;>omega
     simp only [BS,LB,Nat.reduceLT,Nat.reduceEqDiff,r8,r9,aP,hlt]
     refine aD (aM rfl) (q:=1024) (ps:=[]) (by kernel_rfl) ?_
     simp only [BS,LB,cls,Nat.reduceLT,Nat.reduceEqDiff,Nat.reduceAdd,Nat.reducePow,Nat.reduceDiv,Nat.reduceMod,Nat.reduceLeDiff,Tryz.FFt2202,r1,l1,l2,hidx,hidx2,hld,hld2,encI]
     refine dC (cm (by exact Tryz.u24) (by exact Tryz.e2E) (by decide) (by rfl)) S ?_;clear S;intro h b22 S n_b22 e_b22;simp only [LC,aY,bM,an,Nat.reduceMul,Nat.reduceAdd,Xj,Xr,Xs,XL]at S
     simp only [BS,LB,cls,Nat.reduceLT,Nat.reduceEqDiff,Nat.reduceAdd,Nat.reducePow,Nat.reduceDiv,Nat.reduceMod,Nat.reduceLeDiff,zZ,Tryz.FFt2202]
     have w1:aq .i64 1=1:=rfl
     have w2:aq .i64 2=2:=rfl
     have hp:=plN_at X Y hlt
     rw [bC]
     simp only [BS,LB,Nat.reduceLT,Nat.reduceEqDiff,Nat.reduceAdd,Int.reduceToNat,Int.reduceLE,Int.reduceLT,zZ,Tryz.FFt2202,r0,S.ld (b:=b22) (o:=0) m0 rfl,S.ld (b:=b22) (o:=1) m0 rfl]
     refine gf Y' (s.gr S.gr) (Y'.gr _ _ _ _ hj S.gr) (i:=2*i) (by rw [Xf,hp.1];simp [jg,zN,hlt]) ?_ ?_ ?_
     . intro h2 F2 a s2 mo2 _
       have nF:b22∉F:=fun hm=>by have:=s.lt _ hm;omega
       have R:Row h2 b22 _ 1:=(S.row m0).of_get (mo2.get _ ((S.row m0).lt S.ok) nF)
       have R1:=R.load1 (o:=1) rfl
       have nF2:True:=trivial
       simp only [BS,LB,Nat.reduceLT,Nat.reduceEqDiff,Int.reduceAdd,w1]
       rw [bC]
       simp only [BS,LB,Nat.reduceLT,Nat.reduceEqDiff,Nat.reduceAdd,Int.reduceToNat,Int.reduceLE,Int.reduceLT,zZ,Tryz.FFt2202,r0,R1]
       refine gf Y' s2 a (i:=2*i+1) (by rw [Xf,hp.2];simp [jg,zN,show i<Y.length by omega]) ?_ ?_ ?_
       . intro h3 F3 a s3 _ _
         simp only [BS,LB,Nat.reduceLT,Nat.reduceEqDiff,Int.reduceAdd,w2]
         rw [bC]
         simp only [BS,LB,Nat.reduceLT,Nat.reduceEqDiff,Int.reduceLT,r9,w]
         exact ih (i+1) _ _ (by omega) ⟨by omega,F3,s3,a,by simp [aa,r0],by simp [aa,r1],by simp [aa,r8],by simp [aa]⟩
       . intro h' a _
         simp only [BS,LB,Nat.reduceLT,Nat.reduceEqDiff]
         exact iV rfl ⟨rfl,.inr (.inl ⟨_,rfl,a⟩)⟩
       . intro v h' a
         simp only [BS]
         exact hZ (cS ⟨rfl,.inr (.inr ⟨_,rfl,a⟩)⟩)
     . intro h' a _
       simp only [BS,LB,Nat.reduceLT,Nat.reduceEqDiff]
       exact iV rfl ⟨rfl,.inr (.inl ⟨_,rfl,a⟩)⟩
     . intro v h' a
       simp only [BS]
       exact hZ (cS ⟨rfl,.inr (.inr ⟨_,rfl,a⟩)⟩)
   . simp only [BS,LB,Nat.reduceLT,r8,r9,aP,hlt]
     have:i=X.length:=by omega
     subst this
     exact dD (cS ⟨rfl,_,rfl,rfl,.inl ⟨_,F,rfl,by simpa [plN_len]using hj⟩⟩)
 . exact⟨by omega,F,s,hj,by simp [aa,cD],by simp [aa,cD,ae],by simp [aa],by simp [aa]⟩
def Tryz.FFt3203:=aj Z1<|aj Z2<|aj Z0<|aj Z3<|aj Z7<|aj Z9<|aj Z14<|aj Z17<|aj Z19<|aj Z5<|aj Z13<|aj Z6<|aj Z15<|aj Z8<|aj Z52<|aj Z69<|Z73
def plA(n:Nat)(A:List Arc):List Pl:=(zX A.length).flatMap fun(i:Nat)=>[⟨i,0,9,(A.getD i default).s,0,n⟩,⟨i,1,9,(A.getD i default).t,0,n⟩,⟨i,2,10,(A.getD i default).w,0,2147483648⟩]
theorem flat3_at{α:Type}(f k l:Nat->α): ∀(n j:Nat),j<n->((zX n).flatMap fun i=>[f i,k i,l i])[3*j]? =some (f j)/\((zX n).flatMap fun i=>[f i,k i,l i])[3*j+1]? =some (k j)/\((zX n).flatMap fun i=>[f i,k i,l i])[3*j+2]? =some (l j):=by
 intro n
 induction n with
 |zero=>intro j hj;omega
 | succ n ih=>
   intro j hj
   have hlen:((zX n).flatMap fun i=>[f i,k i,l i]).length=3*n:=by rw [Xn];simp [Xx];omega
   rw [XG,XQ]
   by_cases h:j<n
   . rw [zR (by omega),zR (by omega),zR (by omega)];exact ih j h
   . have:j=n:=by omega
     subst this
     rw [zP (by omega),zP (by omega),zP (by omega),hlen]
     simp
theorem plA_len(n:Nat)(A:List Arc):(plA n A).length=3*A.length:=by
 unfold plA
 rw [Xn]
 simp [Xx]
 omega
theorem arcs_iter {h0:Hp} (ok0:h0.t.Sized h0.n) {vx vy va:Value} {b n:Nat} {A:List Arc} (hb:Row h0 b [.int .i64 n,vx,vy,va] 1) (hA:aA h0 3 cy va A) (hlen:A.length<1000):
 Iter zM 203 [] [ptrTo b] h0 (fun c=>c=b\/av va c) ((plA n A).map fun p=>[.agg ⟨jg p⟩]):=by
 refine qU fun lb J Z Y' h F s hj=>?_
 refine enter (n:=44) (rs:=[]) rfl Tryz.e203 rfl rfl rfl (lbt rfl) ?_
 have l0:=s.load ok0 (hb.load1 (o:=0) rfl) (.inl rfl)
 have l3:=s.load ok0 (hb.load1 (o:=3) rfl) (.inl rfl)
 simp only [BS,LB,Nat.reduceLT,Nat.reduceEqDiff,Tryz.FFt3203,l0,l3,hA.lenq]
 refine bA (fun(i:Nat) ρ h=>i<=A.length/\ ∃F,ItS h0 (fun c=>c=b\/av va c) h F/\J (3*i) h F/\ρ 0=.func (.yield lb) #[] #[]/\ρ 3=.int .i64 n/\ρ 11=va/\ρ 12=.int .i64 A.length/\ρ 13=.int .i64 i) (fun i=>A.length-i) ?_ 0 _ _ ?_
 . intro i ih ρ h ⟨hi,F,s,hj,r0,r3,r11,r12,r13⟩
   by_cases hlt:i<A.length
   . have hA':=s.sl ok0 hA (fun b h=>.inr h)
     obtain⟨c,o,hidx,hld⟩:=hA'.ix (kd:=.i64) gP hlt
     have S:=Si s.ok
     have w:aq .i64 ((i:Int)+1)=((i+1:Nat):Int):=by rw [wrap64]<;>omega
     have w1:aq .i64 1=1:=rfl
     have w2:aq .i64 2=2:=rfl
     have w3:aq .i64 3=3:=rfl
     have hp:=flat3_at (fun(i:Nat)=>(⟨i,0,9,(A.getD i default).s,0,n⟩:Pl)) (fun(i:Nat)=>⟨i,1,9,(A.getD i default).t,0,n⟩) (fun(i:Nat)=>⟨i,2,10,(A.getD i default).w,0,2147483648⟩) A.length i hlt
     have hd:A.getD i default=A[i]:=by simp [zN,hlt]
     simp only [BS,LB,Nat.reduceLT,Nat.reduceEqDiff,Tryz.FFt3203,r11,r12,r13,aP,hlt,hidx,hld]
     refine ag aF S ?_;clear S;intro h b5 S n_b5
     simp only [BS,LB,Nat.reduceLT,Nat.reduceEqDiff,cy]
     refine aC (S.store (i:=0) rfl ?_ ?_ rfl rfl ?_ ono) ?_
     . exact(by exact Tryz.s87)
     . exact(by intro x e;cases e)
     . exact lbt rfl
     clear S;rintro h ⟨S,mo⟩;clear mo;simp only [LC,an,lay,XJ,XK,Nat.reduceAdd]at S
     simp only [BS,LB,Nat.reduceLT,Nat.reduceEqDiff,Nat.reduceAdd,Tryz.FFt3203,r3,S.ld (b:=b5) (o:=0) m0 rfl,S.ld (b:=b5) (o:=1) m0 rfl,S.ld (b:=b5) (o:=2) m0 rfl]
     refine ag (cm (by exact Tryz.u286) (by exact Tryz.e220E) (by decide) (by rfl)) S ?_;clear S;intro h bl S n_bl;simp only [LC,aY,bM,an,Nat.reduceMul,Nat.reduceAdd,Xj,Xr,Xs,XL]at S
     simp only [BS,LB,Nat.reduceLT,Nat.reduceEqDiff,zZ,Tryz.FFt3203]
     have nF:bl∉F:=fun hm=>by have:=s.lt _ hm;omega
     have R:Row h bl _ 1:=S.row m0
     have hbl:=R.lt S.ok
     rw [bC]
     simp only [BS,LB,Nat.reduceLT,Nat.reduceEqDiff,Int.reduceToNat,Int.reduceLE,Int.reduceLT,zZ,Tryz.FFt3203,S.lds (b:=bl) (o:=0) (n:=6) m0 (lbt rfl)]
     refine ag aF S ?_;clear S;intro h b7 S n_b7
     simp only [BS,LB,Nat.reduceLT,Nat.reduceEqDiff,Xz,Xm,Xy]
     refine aC (S.store (i:=0) rfl ?_ ?_ rfl rfl ?_ ono) ?_
     . exact(by exact Tryz.s220)
     . exact(by intro x e;cases e)
     . exact lbt rfl
     clear S;rintro h ⟨S,mo⟩;clear mo;simp only [LC,an,lay,XJ,XK,Nat.reduceAdd]at S
     simp only [BS,LB,Nat.reduceLT,Nat.reduceEqDiff,Tryz.FFt3203,r0,S.lds (b:=b7) (o:=0) (n:=6) m0 (lbt rfl)]
     have R:Row h bl _ 1:=S.row m1
     refine gf Y' (s.gr S.gr) (Y'.gr _ _ _ _ hj S.gr) (i:=3*i) (by rw [Xf,show(plA n A)[3*i]? =_ from hp.1,hd];simp [jg]) ?_ ?_ ?_
     . intro h2 F2 a s2 mo2 hF2
       have R0:=R
       replace R:Row h2 bl _ 1:=R.of_get (mo2.get _ (R.lt S.ok) nF)
       have nF2:bl∉F2:=fun hm=>by
        rcases hF2 _ hm with hm|hm
        . exact nF hm
        . have:=R0.lt S.ok;omega
       have S:=Si s2.ok
       simp only [BS,LB,Nat.reduceLT,Nat.reduceEqDiff,Int.reduceAdd,w1]
       rw [bC]
       simp only [BS,LB,Nat.reduceLT,Nat.reduceEqDiff,Int.reduceToNat,Int.reduceLE,Int.reduceLT,zZ,Nat.reduceMul,Tryz.FFt3203,R.load (o:=6) (n:=6) (lbt rfl)]
       refine ag aF S ?_;clear S;intro h b8 S n_b8
       simp only [BS,LB,Nat.reduceLT,Nat.reduceEqDiff,XR,Xz,Xm,Xy]
       refine aC (S.store (i:=0) rfl ?_ ?_ rfl rfl ?_ ono) ?_
       . exact(by exact Tryz.s220)
       . exact(by intro x e;cases e)
       . exact lbt rfl
       clear S;rintro h ⟨S,mo⟩;clear mo;simp only [LC,an,lay,XJ,XK,Nat.reduceAdd]at S
       simp only [BS,LB,Nat.reduceLT,Nat.reduceEqDiff,Tryz.FFt3203,r0,S.lds (b:=b8) (o:=0) (n:=6) m0 (lbt rfl)]
       replace R:=R.gr S.gr
       refine gf Y' (s2.gr S.gr) (Y'.gr _ _ _ _ a S.gr) (i:=3*i+1) (by rw [Xf,show(plA n A)[3*i+1]? =_ from hp.2.1,hd];simp [jg]) ?_ ?_ ?_
       . intro h3 F3 a s3 mo3 hF3
         replace R:Row h3 bl _ 1:=R.of_get (mo3.get _ (R.lt S.ok) nF2)
         have S:=Si s3.ok
         simp only [BS,LB,Nat.reduceLT,Nat.reduceEqDiff,Int.reduceAdd,w2]
         rw [bC]
         simp only [BS,LB,Nat.reduceLT,Nat.reduceEqDiff,Int.reduceToNat,Int.reduceLE,Int.reduceLT,zZ,Nat.reduceMul,Tryz.FFt3203,R.load (o:=12) (n:=6) (lbt rfl)]
         refine ag aF S ?_;clear S;intro h b9 S n_b9
         simp only [BS,LB,Nat.reduceLT,Nat.reduceEqDiff,XR,Xz,Xm,Xy]
         refine aC (S.store (i:=0) rfl ?_ ?_ rfl rfl ?_ ono) ?_
         . exact(by exact Tryz.s220)
         . exact(by intro x e;cases e)
         . exact lbt rfl
         clear S;rintro h ⟨S,mo⟩;clear mo;simp only [LC,an,lay,XJ,XK,Nat.reduceAdd]at S
         simp only [BS,LB,Nat.reduceLT,Nat.reduceEqDiff,Tryz.FFt3203,r0,S.lds (b:=b9) (o:=0) (n:=6) m0 (lbt rfl)]
         refine gf Y' (s3.gr S.gr) (Y'.gr _ _ _ _ a S.gr) (i:=3*i+2) (by rw [Xf,show(plA n A)[3*i+2]? =_ from hp.2.2,hd];simp [jg]) ?_ ?_ ?_
         . intro h4 F4 a s4 mo4 hF4
           simp only [BS,LB,Nat.reduceLT,Nat.reduceEqDiff,Int.reduceAdd,w3]
           rw [bC]
           simp only [BS,LB,Nat.reduceLT,Nat.reduceEqDiff,Int.reduceLT,r13,w]
           exact ih (i+1) _ _ (by omega) ⟨by omega,F4,s4,a,by simp [aa,r0],by simp [aa,r3],by simp [aa,r11],by simp [aa,r12],by simp [aa]⟩
         . intro h' a _
           simp only [BS,LB,Nat.reduceLT,Nat.reduceEqDiff]
           exact iV rfl ⟨rfl,.inr (.inl ⟨_,rfl,a⟩)⟩
         . intro v h' a
           simp only [BS]
           exact hZ (cS ⟨rfl,.inr (.inr ⟨_,rfl,a⟩)⟩)
       . intro h' a _
         simp only [BS,LB,Nat.reduceLT,Nat.reduceEqDiff]
         exact iV rfl ⟨rfl,.inr (.inl ⟨_,rfl,a⟩)⟩
       . intro v h' a
         simp only [BS]
         exact hZ (cS ⟨rfl,.inr (.inr ⟨_,rfl,a⟩)⟩)
     . intro h' a _
       simp only [BS,LB,Nat.reduceLT,Nat.reduceEqDiff]
       exact iV rfl ⟨rfl,.inr (.inl ⟨_,rfl,a⟩)⟩
     . intro v h' a
       simp only [BS]
       exact hZ (cS ⟨rfl,.inr (.inr ⟨_,rfl,a⟩)⟩)
   . simp only [BS,LB,Nat.reduceLT,r12,r13,aP,hlt]
     have:i=A.length:=by omega
     subst this
     exact dD (cS ⟨rfl,_,rfl,rfl,.inl ⟨_,F,rfl,by simpa [plA_len]using hj⟩⟩)
 . exact⟨by omega,F,s,hj,by simp [aa,cD],by simp [aa],by simp [aa],by simp [aa],by simp [aa]⟩
end Go.Ab
end

/- Nets, cells, flags: what the functions do (part 1). -/
import Derived.Test.YtdjlnmjcdmnllaaGreatDoorEnv
open Go.Ab.Tryz renaming abEnv->xc
open And renaming intro->xd
open List renaming take->xe,drop->xf,getD_eq_getElem?_getD->xi,range->xm,flatMap_append->xn,getElem?_append_right->xq,getElem?_append_left->xt,getElem?_map->xu,length_flatMap->xy,getElem?_eq_getElem->xz,length_cons->xB,map_const'->xC,mem_of_getElem?->xE,take_succ_cons->xF,getElem_mem->xG,filter_cons->xI,range_succ->xJ,drop_zero->xL,take_zero->xM,drop_succ_cons->xN
open Nat renaming lt_of_succ_le->xg,zero_add->xh,zero_mul->xj,mul_one->xo,one_mul->xp,le_trans->xA,le_refl->xK
open Int renaming cast_ofNat_Int->xk,tmod_eq_emod_of_nonneg->xx
open Bool renaming and_true->xw
open Option renaming getD_some->xH
set_option maxHeartbeats 4000000
set_option linter.defProp false
set_option linter.unusedVariables false
set_option linter.unusedSimpArgs false
section
namespace Go.Ab
theorem Si{h:Hp}(ok:h.t.Sized h.n):St NoM h h [] []:=St.init ok
theorem aj{a b:Prop}(x:a)(y:b):a/\b:=⟨x,y⟩
set_option linter.defProp false in
def LC:=xd @List.set_cons_zero.{0}<|xd @List.set_cons_succ.{0}<|xd @List.cons_append.{0}<|xd @List.nil_append.{0}<|xd @List.append_nil.{0}<|xd @List.length_cons.{0}<|xd @List.length_nil.{0}<|@Nat.add_zero
theorem lbt{a b:Nat}(h:Nat.ble a b=true):a<=b:=Nat.le_of_ble_eq_true h
theorem ono:(1:Nat)≠0:=Nat.one_ne_zero
set_option linter.defProp false in
def LB:=xd @if_true.{1}<|xd @if_false.{1}<|xd @eq_self.{1}<|xd @List.map_cons.{0,0}<|xd @List.map_nil.{0,0}<|xd @List.append_nil.{0}<|xd @List.nil_append.{0}<|xd @List.cons_append.{0}<|xd @List.getElem?_cons_zero.{0}<|xd @List.getElem?_cons_succ.{0}<|xd @List.set_cons_zero.{0}<|xd @List.set_cons_succ.{0}<|xd @List.length_cons.{0}<|xd @List.length_nil.{0}<|xd @Nat.add_zero<|xd @Nat.zero_add<|xd @Nat.mul_one<|xd @Nat.zero_mul<|xd @cond_true.{1}<|xd @cond_false.{1}<|xd @decide_true<|xd @decide_false<|xd @Bool.and_true<|xd @Bool.and_false<|xd @Bool.not_false<|xd @Bool.not_true<|xd @true_and<|xd @and_true<|xd @Option.isSome_some.{0}<|@List.map_toArray.{0,0}
open Go.Proofs
theorem Tryz.a1:Tryz.abEnv.agg 1=some false:=by kernel_rfl
theorem Tryz.s1:Tryz.abEnv.sz 1=some 1:=by kernel_rfl
theorem Tryz.z1:Tryz.abEnv.zero 1=some [.nilFunc]:=by kernel_rfl
theorem Tryz.n1:av xc 1=some false:=by kernel_rfl
theorem Tryz.u2:Tryz.abEnv.und 2=some (.int .i64):=by kernel_rfl
theorem Tryz.a2:Tryz.abEnv.agg 2=some false:=by kernel_rfl
theorem Tryz.s2:Tryz.abEnv.sz 2=some 1:=by kernel_rfl
theorem Tryz.z2:Tryz.abEnv.zero 2=some [.int .i64 0]:=by kernel_rfl
theorem Tryz.i2:aK xc 2=true:=by kernel_rfl
theorem Tryz.e2E:dJ xc 2 8 1 [.int .i64 0]:=⟨⟨_,rfl,by kernel_rfl,by kernel_rfl⟩,Tryz.z2,rfl⟩
theorem Tryz.u3:Tryz.abEnv.und 3=some (.int .i64):=by kernel_rfl
theorem Tryz.a3:Tryz.abEnv.agg 3=some false:=by kernel_rfl
theorem Tryz.s3:Tryz.abEnv.sz 3=some 1:=by kernel_rfl
theorem Tryz.z3:Tryz.abEnv.zero 3=some [.int .i64 0]:=by kernel_rfl
theorem Tryz.i3:aK xc 3=true:=by kernel_rfl
theorem Tryz.e3E:dJ xc 3 8 1 [.int .i64 0]:=⟨⟨_,rfl,by kernel_rfl,by kernel_rfl⟩,Tryz.z3,rfl⟩
theorem Tryz.u4:Tryz.abEnv.und 4=some .bool:=by kernel_rfl
theorem Tryz.a4:Tryz.abEnv.agg 4=some false:=by kernel_rfl
theorem Tryz.s4:Tryz.abEnv.sz 4=some 1:=by kernel_rfl
theorem Tryz.z4:Tryz.abEnv.zero 4=some [.bool false]:=by kernel_rfl
theorem Tryz.n4:av xc 4=some false:=by kernel_rfl
theorem Tryz.e4E:dJ xc 4 1 1 [.bool false]:=⟨⟨_,rfl,by kernel_rfl,by kernel_rfl⟩,Tryz.z4,rfl⟩
theorem Tryz.u5:Tryz.abEnv.und 5=some (.int .u8):=by kernel_rfl
theorem Tryz.a5:Tryz.abEnv.agg 5=some false:=by kernel_rfl
theorem Tryz.s5:Tryz.abEnv.sz 5=some 1:=by kernel_rfl
theorem Tryz.z5:Tryz.abEnv.zero 5=some [.int .u8 0]:=by kernel_rfl
theorem Tryz.i5:aK xc 5=true:=by kernel_rfl
theorem Tryz.e5E:dJ xc 5 1 1 [.int .u8 0]:=⟨⟨_,rfl,by kernel_rfl,by kernel_rfl⟩,Tryz.z5,rfl⟩
theorem Tryz.u6:Tryz.abEnv.und 6=some (.int .u8):=by kernel_rfl
theorem Tryz.a6:Tryz.abEnv.agg 6=some false:=by kernel_rfl
theorem Tryz.s6:Tryz.abEnv.sz 6=some 1:=by kernel_rfl
theorem Tryz.z6:Tryz.abEnv.zero 6=some [.int .u8 0]:=by kernel_rfl
theorem Tryz.i6:aK xc 6=true:=by kernel_rfl
theorem Tryz.a7:Tryz.abEnv.agg 7=some true:=by kernel_rfl
theorem Tryz.s7:Tryz.abEnv.sz 7=some 4:=by kernel_rfl
theorem Tryz.z7:Tryz.abEnv.zero 7=some [.int .i64 0,.int .i64 0,.bool false,.int .u8 0]:=by kernel_rfl
theorem Tryz.i7:aK xc 7=true:=by kernel_rfl
theorem Tryz.n7:av xc 7=some false:=by kernel_rfl
theorem Tryz.p7:placesOf xc 7=some [(0,1),(1,1),(2,1),(3,1)]:=by kernel_rfl
theorem Tryz.ff7(b o:Nat)(s:Option Nat):am xc 7 (.pointer (some ⟨b,o,s⟩)) 0=some (.pointer (some ⟨b,o+0,none⟩))/\am xc 7 (.pointer (some ⟨b,o,s⟩)) 1=some (.pointer (some ⟨b,o+1,none⟩))/\am xc 7 (.pointer (some ⟨b,o,s⟩)) 2=some (.pointer (some ⟨b,o+2,none⟩))/\am xc 7 (.pointer (some ⟨b,o,s⟩)) 3=some (.pointer (some ⟨b,o+3,none⟩)):=⟨rfl,rfl,rfl,rfl⟩
theorem Tryz.d7(x0 x1 x2 x3:Value):ar xc 7 (.agg ⟨[x0,x1,x2,x3]⟩) 0=some x0/\ar xc 7 (.agg ⟨[x0,x1,x2,x3]⟩) 1=some x1/\ar xc 7 (.agg ⟨[x0,x1,x2,x3]⟩) 2=some x2/\ar xc 7 (.agg ⟨[x0,x1,x2,x3]⟩) 3=some x3:=⟨rfl,rfl,rfl,rfl⟩
theorem Tryz.a8:Tryz.abEnv.agg 8=some true:=by kernel_rfl
theorem Tryz.s8:Tryz.abEnv.sz 8=some 4:=by kernel_rfl
theorem Tryz.z8:Tryz.abEnv.zero 8=some [.int .i64 0,.int .i64 0,.bool false,.int .u8 0]:=by kernel_rfl
theorem Tryz.i8:aK xc 8=true:=by kernel_rfl
theorem Tryz.n8:av xc 8=some false:=by kernel_rfl
theorem Tryz.p8:placesOf xc 8=some [(0,1),(1,1),(2,1),(3,1)]:=by kernel_rfl
theorem Tryz.ff8(b o:Nat)(s:Option Nat):am xc 8 (.pointer (some ⟨b,o,s⟩)) 0=some (.pointer (some ⟨b,o+0,none⟩))/\am xc 8 (.pointer (some ⟨b,o,s⟩)) 1=some (.pointer (some ⟨b,o+1,none⟩))/\am xc 8 (.pointer (some ⟨b,o,s⟩)) 2=some (.pointer (some ⟨b,o+2,none⟩))/\am xc 8 (.pointer (some ⟨b,o,s⟩)) 3=some (.pointer (some ⟨b,o+3,none⟩)):=⟨rfl,rfl,rfl,rfl⟩
theorem Tryz.d8(x0 x1 x2 x3:Value):ar xc 8 (.agg ⟨[x0,x1,x2,x3]⟩) 0=some x0/\ar xc 8 (.agg ⟨[x0,x1,x2,x3]⟩) 1=some x1/\ar xc 8 (.agg ⟨[x0,x1,x2,x3]⟩) 2=some x2/\ar xc 8 (.agg ⟨[x0,x1,x2,x3]⟩) 3=some x3:=⟨rfl,rfl,rfl,rfl⟩
theorem Tryz.u9:Tryz.abEnv.und 9=some .string:=by kernel_rfl
theorem Tryz.a9:Tryz.abEnv.agg 9=some false:=by kernel_rfl
theorem Tryz.s9:Tryz.abEnv.sz 9=some 1:=by kernel_rfl
theorem Tryz.z9:Tryz.abEnv.zero 9=some [.string ⟨#[]⟩]:=by kernel_rfl
theorem Tryz.n9:av xc 9=some false:=by kernel_rfl
theorem Tryz.u10:Tryz.abEnv.und 10=some .string:=by kernel_rfl
theorem Tryz.a10:Tryz.abEnv.agg 10=some false:=by kernel_rfl
theorem Tryz.s10:Tryz.abEnv.sz 10=some 1:=by kernel_rfl
theorem Tryz.z10:Tryz.abEnv.zero 10=some [.string ⟨#[]⟩]:=by kernel_rfl
theorem Tryz.n10:av xc 10=some false:=by kernel_rfl
theorem Tryz.u11:Tryz.abEnv.und 11=some .string:=by kernel_rfl
theorem Tryz.a11:Tryz.abEnv.agg 11=some false:=by kernel_rfl
theorem Tryz.s11:Tryz.abEnv.sz 11=some 1:=by kernel_rfl
theorem Tryz.z11:Tryz.abEnv.zero 11=some [.string ⟨#[]⟩]:=by kernel_rfl
theorem Tryz.n11:av xc 11=some false:=by kernel_rfl
theorem Tryz.u12:Tryz.abEnv.und 12=some (.int .u64):=by kernel_rfl
theorem Tryz.a12:Tryz.abEnv.agg 12=some false:=by kernel_rfl
theorem Tryz.s12:Tryz.abEnv.sz 12=some 1:=by kernel_rfl
theorem Tryz.z12:Tryz.abEnv.zero 12=some [.int .u64 0]:=by kernel_rfl
theorem Tryz.i12:aK xc 12=true:=by kernel_rfl
theorem Tryz.a13:Tryz.abEnv.agg 13=some true:=by kernel_rfl
theorem Tryz.s13:Tryz.abEnv.sz 13=some 2:=by kernel_rfl
theorem Tryz.z13:Tryz.abEnv.zero 13=some [.string ⟨#[]⟩,.int .u64 0]:=by kernel_rfl
theorem Tryz.i13:aK xc 13=true:=by kernel_rfl
theorem Tryz.n13:av xc 13=some false:=by kernel_rfl
theorem Tryz.p13:placesOf xc 13=some [(0,1),(1,1)]:=by kernel_rfl
theorem Tryz.ff13(b o:Nat)(s:Option Nat):am xc 13 (.pointer (some ⟨b,o,s⟩)) 0=some (.pointer (some ⟨b,o+0,none⟩))/\am xc 13 (.pointer (some ⟨b,o,s⟩)) 1=some (.pointer (some ⟨b,o+1,none⟩)):=⟨rfl,rfl⟩
theorem Tryz.d13(x0 x1:Value):ar xc 13 (.agg ⟨[x0,x1]⟩) 0=some x0/\ar xc 13 (.agg ⟨[x0,x1]⟩) 1=some x1:=⟨rfl,rfl⟩
theorem Tryz.a14:Tryz.abEnv.agg 14=some true:=by kernel_rfl
theorem Tryz.s14:Tryz.abEnv.sz 14=some 2:=by kernel_rfl
theorem Tryz.z14:Tryz.abEnv.zero 14=some [.string ⟨#[]⟩,.int .u64 0]:=by kernel_rfl
theorem Tryz.i14:aK xc 14=true:=by kernel_rfl
theorem Tryz.n14:av xc 14=some false:=by kernel_rfl
theorem Tryz.p14:placesOf xc 14=some [(0,1),(1,1)]:=by kernel_rfl
theorem Tryz.ff14(b o:Nat)(s:Option Nat):am xc 14 (.pointer (some ⟨b,o,s⟩)) 0=some (.pointer (some ⟨b,o+0,none⟩))/\am xc 14 (.pointer (some ⟨b,o,s⟩)) 1=some (.pointer (some ⟨b,o+1,none⟩)):=⟨rfl,rfl⟩
theorem Tryz.d14(x0 x1:Value):ar xc 14 (.agg ⟨[x0,x1]⟩) 0=some x0/\ar xc 14 (.agg ⟨[x0,x1]⟩) 1=some x1:=⟨rfl,rfl⟩
theorem Tryz.u15:Tryz.abEnv.und 15=some (.pointer 357):=by kernel_rfl
theorem Tryz.a15:Tryz.abEnv.agg 15=some false:=by kernel_rfl
theorem Tryz.s15:Tryz.abEnv.sz 15=some 1:=by kernel_rfl
theorem Tryz.z15:Tryz.abEnv.zero 15=some [.pointer none]:=by kernel_rfl
theorem Tryz.q15:eH xc 15=true:=by kernel_rfl
theorem Tryz.i15:aK xc 15=true:=by kernel_rfl
theorem Tryz.n15:av xc 15=some false:=by kernel_rfl
theorem Tryz.u16:Tryz.abEnv.und 16=some (.pointer 360):=by kernel_rfl
theorem Tryz.a16:Tryz.abEnv.agg 16=some false:=by kernel_rfl
theorem Tryz.s16:Tryz.abEnv.sz 16=some 1:=by kernel_rfl
theorem Tryz.z16:Tryz.abEnv.zero 16=some [.pointer none]:=by kernel_rfl
theorem Tryz.q16:eH xc 16=true:=by kernel_rfl
theorem Tryz.i16:aK xc 16=true:=by kernel_rfl
theorem Tryz.n16:av xc 16=some false:=by kernel_rfl
theorem Tryz.u17:Tryz.abEnv.und 17=some (.pointer 367):=by kernel_rfl
theorem Tryz.a17:Tryz.abEnv.agg 17=some false:=by kernel_rfl
theorem Tryz.s17:Tryz.abEnv.sz 17=some 1:=by kernel_rfl
theorem Tryz.z17:Tryz.abEnv.zero 17=some [.pointer none]:=by kernel_rfl
theorem Tryz.q17:eH xc 17=true:=by kernel_rfl
theorem Tryz.i17:aK xc 17=true:=by kernel_rfl
theorem Tryz.n17:av xc 17=some false:=by kernel_rfl
theorem Tryz.a18:Tryz.abEnv.agg 18=some true:=by kernel_rfl
theorem Tryz.s18:Tryz.abEnv.sz 18=some 1:=by kernel_rfl
theorem Tryz.z18:Tryz.abEnv.zero 18=some [.pointer none]:=by kernel_rfl
theorem Tryz.i18:aK xc 18=true:=by kernel_rfl
theorem Tryz.n18:av xc 18=some false:=by kernel_rfl
theorem Tryz.p18:placesOf xc 18=some [(0,1)]:=by kernel_rfl
theorem Tryz.ff18(b o:Nat)(s:Option Nat):am xc 18 (.pointer (some ⟨b,o,s⟩)) 0=some (.pointer (some ⟨b,o+0,none⟩)):=rfl
theorem Tryz.d18(x0:Value):ar xc 18 (.agg ⟨[x0]⟩) 0=some x0:=rfl
theorem Tryz.a19:Tryz.abEnv.agg 19=some true:=by kernel_rfl
theorem Tryz.s19:Tryz.abEnv.sz 19=some 1:=by kernel_rfl
theorem Tryz.z19:Tryz.abEnv.zero 19=some [.pointer none]:=by kernel_rfl
theorem Tryz.i19:aK xc 19=true:=by kernel_rfl
theorem Tryz.n19:av xc 19=some false:=by kernel_rfl
theorem Tryz.p19:placesOf xc 19=some [(0,1)]:=by kernel_rfl
theorem Tryz.ff19(b o:Nat)(s:Option Nat):am xc 19 (.pointer (some ⟨b,o,s⟩)) 0=some (.pointer (some ⟨b,o+0,none⟩)):=rfl
theorem Tryz.d19(x0:Value):ar xc 19 (.agg ⟨[x0]⟩) 0=some x0:=rfl
theorem Tryz.a20:Tryz.abEnv.agg 20=some false:=by kernel_rfl
theorem Tryz.s20:Tryz.abEnv.sz 20=some 1:=by kernel_rfl
theorem Tryz.z20:Tryz.abEnv.zero 20=some [.nilIface]:=by kernel_rfl
theorem Tryz.q20:isIface xc 20=true:=by kernel_rfl
theorem Tryz.n20:av xc 20=some false:=by kernel_rfl
theorem Tryz.u21:Tryz.abEnv.und 21=some (.int .i32):=by kernel_rfl
theorem Tryz.a21:Tryz.abEnv.agg 21=some false:=by kernel_rfl
theorem Tryz.s21:Tryz.abEnv.sz 21=some 1:=by kernel_rfl
theorem Tryz.z21:Tryz.abEnv.zero 21=some [.int .i32 0]:=by kernel_rfl
theorem Tryz.i21:aK xc 21=true:=by kernel_rfl
theorem Tryz.u22:Tryz.abEnv.und 22=some (.slice 5):=by kernel_rfl
theorem Tryz.a22:Tryz.abEnv.agg 22=some false:=by kernel_rfl
theorem Tryz.s22:Tryz.abEnv.sz 22=some 1:=by kernel_rfl
theorem Tryz.z22:Tryz.abEnv.zero 22=some [.slice none 0 0]:=by kernel_rfl
theorem Tryz.q22:jj xc 22=true:=by kernel_rfl
theorem Tryz.n22:av xc 22=some false:=by kernel_rfl
theorem Tryz.a24:Tryz.abEnv.agg 24=some true:=by kernel_rfl
theorem Tryz.s24:Tryz.abEnv.sz 24=some 2:=by kernel_rfl
theorem Tryz.z24:Tryz.abEnv.zero 24=some [.slice none 0 0,.slice none 0 0]:=by kernel_rfl
theorem Tryz.i24:aK xc 24=true:=by kernel_rfl
theorem Tryz.n24:av xc 24=some false:=by kernel_rfl
theorem Tryz.p24:placesOf xc 24=some [(0,1),(1,1)]:=by kernel_rfl
theorem Tryz.ff24(b o:Nat)(s:Option Nat):am xc 24 (.pointer (some ⟨b,o,s⟩)) 0=some (.pointer (some ⟨b,o+0,none⟩))/\am xc 24 (.pointer (some ⟨b,o,s⟩)) 1=some (.pointer (some ⟨b,o+1,none⟩)):=⟨rfl,rfl⟩
theorem Tryz.d24(x0 x1:Value):ar xc 24 (.agg ⟨[x0,x1]⟩) 0=some x0/\ar xc 24 (.agg ⟨[x0,x1]⟩) 1=some x1:=⟨rfl,rfl⟩
theorem Tryz.u25:Tryz.abEnv.und 25=some (.slice 2):=by kernel_rfl
theorem Tryz.a25:Tryz.abEnv.agg 25=some false:=by kernel_rfl
theorem Tryz.s25:Tryz.abEnv.sz 25=some 1:=by kernel_rfl
theorem Tryz.z25:Tryz.abEnv.zero 25=some [.slice none 0 0]:=by kernel_rfl
theorem Tryz.q25:jj xc 25=true:=by kernel_rfl
theorem Tryz.n25:av xc 25=some false:=by kernel_rfl
theorem Tryz.u26:Tryz.abEnv.und 26=some (.slice 49):=by kernel_rfl
theorem Tryz.a26:Tryz.abEnv.agg 26=some false:=by kernel_rfl
theorem Tryz.s26:Tryz.abEnv.sz 26=some 1:=by kernel_rfl
theorem Tryz.z26:Tryz.abEnv.zero 26=some [.slice none 0 0]:=by kernel_rfl
theorem Tryz.q26:jj xc 26=true:=by kernel_rfl
theorem Tryz.n26:av xc 26=some false:=by kernel_rfl
theorem Tryz.a28:Tryz.abEnv.agg 28=some true:=by kernel_rfl
theorem Tryz.s28:Tryz.abEnv.sz 28=some 4:=by kernel_rfl
theorem Tryz.z28:Tryz.abEnv.zero 28=some [.int .i64 0,.slice none 0 0,.slice none 0 0,.slice none 0 0]:=by kernel_rfl
theorem Tryz.i28:aK xc 28=true:=by kernel_rfl
theorem Tryz.n28:av xc 28=some false:=by kernel_rfl
theorem Tryz.p28:placesOf xc 28=some [(0,1),(1,1),(2,1),(3,1)]:=by kernel_rfl
theorem Tryz.ff28(b o:Nat)(s:Option Nat):am xc 28 (.pointer (some ⟨b,o,s⟩)) 0=some (.pointer (some ⟨b,o+0,none⟩))/\am xc 28 (.pointer (some ⟨b,o,s⟩)) 1=some (.pointer (some ⟨b,o+1,none⟩))/\am xc 28 (.pointer (some ⟨b,o,s⟩)) 2=some (.pointer (some ⟨b,o+2,none⟩))/\am xc 28 (.pointer (some ⟨b,o,s⟩)) 3=some (.pointer (some ⟨b,o+3,none⟩)):=⟨rfl,rfl,rfl,rfl⟩
theorem Tryz.d28(x0 x1 x2 x3:Value):ar xc 28 (.agg ⟨[x0,x1,x2,x3]⟩) 0=some x0/\ar xc 28 (.agg ⟨[x0,x1,x2,x3]⟩) 1=some x1/\ar xc 28 (.agg ⟨[x0,x1,x2,x3]⟩) 2=some x2/\ar xc 28 (.agg ⟨[x0,x1,x2,x3]⟩) 3=some x3:=⟨rfl,rfl,rfl,rfl⟩
theorem Tryz.u29:Tryz.abEnv.und 29=some (.pointer 192):=by kernel_rfl
theorem Tryz.a29:Tryz.abEnv.agg 29=some false:=by kernel_rfl
theorem Tryz.s29:Tryz.abEnv.sz 29=some 1:=by kernel_rfl
theorem Tryz.z29:Tryz.abEnv.zero 29=some [.pointer none]:=by kernel_rfl
theorem Tryz.q29:eH xc 29=true:=by kernel_rfl
theorem Tryz.i29:aK xc 29=true:=by kernel_rfl
theorem Tryz.n29:av xc 29=some false:=by kernel_rfl
theorem Tryz.u30:Tryz.abEnv.und 30=some (.pointer 117):=by kernel_rfl
theorem Tryz.a30:Tryz.abEnv.agg 30=some false:=by kernel_rfl
theorem Tryz.s30:Tryz.abEnv.sz 30=some 1:=by kernel_rfl
theorem Tryz.z30:Tryz.abEnv.zero 30=some [.pointer none]:=by kernel_rfl
theorem Tryz.q30:eH xc 30=true:=by kernel_rfl
theorem Tryz.i30:aK xc 30=true:=by kernel_rfl
theorem Tryz.n30:av xc 30=some false:=by kernel_rfl
theorem Tryz.u34:Tryz.abEnv.und 34=some (.pointer 115):=by kernel_rfl
theorem Tryz.a34:Tryz.abEnv.agg 34=some false:=by kernel_rfl
theorem Tryz.s34:Tryz.abEnv.sz 34=some 1:=by kernel_rfl
theorem Tryz.z34:Tryz.abEnv.zero 34=some [.pointer none]:=by kernel_rfl
theorem Tryz.q34:eH xc 34=true:=by kernel_rfl
theorem Tryz.i34:aK xc 34=true:=by kernel_rfl
theorem Tryz.n34:av xc 34=some false:=by kernel_rfl
theorem Tryz.u38:Tryz.abEnv.und 38=some (.slice 3):=by kernel_rfl
theorem Tryz.a38:Tryz.abEnv.agg 38=some false:=by kernel_rfl
theorem Tryz.s38:Tryz.abEnv.sz 38=some 1:=by kernel_rfl
theorem Tryz.z38:Tryz.abEnv.zero 38=some [.slice none 0 0]:=by kernel_rfl
theorem Tryz.q38:jj xc 38=true:=by kernel_rfl
theorem Tryz.n38:av xc 38=some false:=by kernel_rfl
theorem Tryz.e38E:dJ xc 38 24 1 [.slice none 0 0]:=⟨⟨_,rfl,by kernel_rfl,by kernel_rfl⟩,Tryz.z38,rfl⟩
theorem Tryz.u43:Tryz.abEnv.und 43=some (.slice 4):=by kernel_rfl
theorem Tryz.a43:Tryz.abEnv.agg 43=some false:=by kernel_rfl
theorem Tryz.s43:Tryz.abEnv.sz 43=some 1:=by kernel_rfl
theorem Tryz.z43:Tryz.abEnv.zero 43=some [.slice none 0 0]:=by kernel_rfl
theorem Tryz.q43:jj xc 43=true:=by kernel_rfl
theorem Tryz.n43:av xc 43=some false:=by kernel_rfl
theorem Tryz.a49:Tryz.abEnv.agg 49=some true:=by kernel_rfl
theorem Tryz.s49:Tryz.abEnv.sz 49=some 3:=by kernel_rfl
theorem Tryz.z49:Tryz.abEnv.zero 49=some [.int .i64 0,.int .i64 0,.int .i64 0]:=by kernel_rfl
theorem Tryz.i49:aK xc 49=true:=by kernel_rfl
theorem Tryz.n49:av xc 49=some false:=by kernel_rfl
theorem Tryz.p49:placesOf xc 49=some [(0,1),(1,1),(2,1)]:=by kernel_rfl
theorem Tryz.ff49(b o:Nat)(s:Option Nat):am xc 49 (.pointer (some ⟨b,o,s⟩)) 0=some (.pointer (some ⟨b,o+0,none⟩))/\am xc 49 (.pointer (some ⟨b,o,s⟩)) 1=some (.pointer (some ⟨b,o+1,none⟩))/\am xc 49 (.pointer (some ⟨b,o,s⟩)) 2=some (.pointer (some ⟨b,o+2,none⟩)):=⟨rfl,rfl,rfl⟩
theorem Tryz.d49(x0 x1 x2:Value):ar xc 49 (.agg ⟨[x0,x1,x2]⟩) 0=some x0/\ar xc 49 (.agg ⟨[x0,x1,x2]⟩) 1=some x1/\ar xc 49 (.agg ⟨[x0,x1,x2]⟩) 2=some x2:=⟨rfl,rfl,rfl⟩
theorem Tryz.e49E:dJ xc 49 24 3 [.int .i64 0,.int .i64 0,.int .i64 0]:=⟨⟨_,rfl,by kernel_rfl,by kernel_rfl⟩,Tryz.z49,rfl⟩
theorem Tryz.a115:Tryz.abEnv.agg 115=some true:=by kernel_rfl
theorem Tryz.s115:Tryz.abEnv.sz 115=some 4:=by kernel_rfl
theorem Tryz.z115:Tryz.abEnv.zero 115=some [.int .i64 0,.int .i64 0,.int .i64 0,.slice none 0 0]:=by kernel_rfl
theorem Tryz.i115:aK xc 115=true:=by kernel_rfl
theorem Tryz.n115:av xc 115=some false:=by kernel_rfl
theorem Tryz.p115:placesOf xc 115=some [(0,1),(1,1),(2,1),(3,1)]:=by kernel_rfl
theorem Tryz.ff115(b o:Nat)(s:Option Nat):am xc 115 (.pointer (some ⟨b,o,s⟩)) 0=some (.pointer (some ⟨b,o+0,none⟩))/\am xc 115 (.pointer (some ⟨b,o,s⟩)) 1=some (.pointer (some ⟨b,o+1,none⟩))/\am xc 115 (.pointer (some ⟨b,o,s⟩)) 2=some (.pointer (some ⟨b,o+2,none⟩))/\am xc 115 (.pointer (some ⟨b,o,s⟩)) 3=some (.pointer (some ⟨b,o+3,none⟩)):=⟨rfl,rfl,rfl,rfl⟩
theorem Tryz.d115(x0 x1 x2 x3:Value):ar xc 115 (.agg ⟨[x0,x1,x2,x3]⟩) 0=some x0/\ar xc 115 (.agg ⟨[x0,x1,x2,x3]⟩) 1=some x1/\ar xc 115 (.agg ⟨[x0,x1,x2,x3]⟩) 2=some x2/\ar xc 115 (.agg ⟨[x0,x1,x2,x3]⟩) 3=some x3:=⟨rfl,rfl,rfl,rfl⟩
theorem Tryz.a117:Tryz.abEnv.agg 117=some true:=by kernel_rfl
theorem Tryz.s117:Tryz.abEnv.sz 117=some 2:=by kernel_rfl
theorem Tryz.z117:Tryz.abEnv.zero 117=some [.slice none 0 0,.int .i64 0]:=by kernel_rfl
theorem Tryz.i117:aK xc 117=true:=by kernel_rfl
theorem Tryz.n117:av xc 117=some false:=by kernel_rfl
theorem Tryz.p117:placesOf xc 117=some [(0,1),(1,1)]:=by kernel_rfl
theorem Tryz.ff117(b o:Nat)(s:Option Nat):am xc 117 (.pointer (some ⟨b,o,s⟩)) 0=some (.pointer (some ⟨b,o+0,none⟩))/\am xc 117 (.pointer (some ⟨b,o,s⟩)) 1=some (.pointer (some ⟨b,o+1,none⟩)):=⟨rfl,rfl⟩
theorem Tryz.d117(x0 x1:Value):ar xc 117 (.agg ⟨[x0,x1]⟩) 0=some x0/\ar xc 117 (.agg ⟨[x0,x1]⟩) 1=some x1:=⟨rfl,rfl⟩
theorem Tryz.u121:Tryz.abEnv.und 121=some (.pointer 5):=by kernel_rfl
theorem Tryz.a121:Tryz.abEnv.agg 121=some false:=by kernel_rfl
theorem Tryz.s121:Tryz.abEnv.sz 121=some 1:=by kernel_rfl
theorem Tryz.z121:Tryz.abEnv.zero 121=some [.pointer none]:=by kernel_rfl
theorem Tryz.q121:eH xc 121=true:=by kernel_rfl
theorem Tryz.i121:aK xc 121=true:=by kernel_rfl
theorem Tryz.n121:av xc 121=some false:=by kernel_rfl
theorem Tryz.u190:Tryz.abEnv.und 190=some (.slice 38):=by kernel_rfl
theorem Tryz.a190:Tryz.abEnv.agg 190=some false:=by kernel_rfl
theorem Tryz.s190:Tryz.abEnv.sz 190=some 1:=by kernel_rfl
theorem Tryz.z190:Tryz.abEnv.zero 190=some [.slice none 0 0]:=by kernel_rfl
theorem Tryz.q190:jj xc 190=true:=by kernel_rfl
theorem Tryz.n190:av xc 190=some false:=by kernel_rfl
theorem Tryz.a192:Tryz.abEnv.agg 192=some true:=by kernel_rfl
theorem Tryz.s192:Tryz.abEnv.sz 192=some 6:=by kernel_rfl
theorem Tryz.z192:Tryz.abEnv.zero 192=some [.int .i64 0,.slice none 0 0,.slice none 0 0,.slice none 0 0,.slice none 0 0,.slice none 0 0]:=by kernel_rfl
theorem Tryz.i192:aK xc 192=true:=by kernel_rfl
theorem Tryz.n192:av xc 192=some false:=by kernel_rfl
theorem Tryz.p192:placesOf xc 192=some [(0,4),(4,1),(5,1)]:=by kernel_rfl
theorem Tryz.ff192(b o:Nat)(s:Option Nat):am xc 192 (.pointer (some ⟨b,o,s⟩)) 0=some (.pointer (some ⟨b,o+0,none⟩))/\am xc 192 (.pointer (some ⟨b,o,s⟩)) 1=some (.pointer (some ⟨b,o+4,none⟩))/\am xc 192 (.pointer (some ⟨b,o,s⟩)) 2=some (.pointer (some ⟨b,o+5,none⟩)):=⟨rfl,rfl,rfl⟩
theorem Tryz.d192(x0 x1 x2 x3 x4 x5:Value):ar xc 192 (.agg ⟨[x0,x1,x2,x3,x4,x5]⟩) 0=some (.agg ⟨[x0,x1,x2,x3]⟩)/\ar xc 192 (.agg ⟨[x0,x1,x2,x3,x4,x5]⟩) 1=some x4/\ar xc 192 (.agg ⟨[x0,x1,x2,x3,x4,x5]⟩) 2=some x5:=⟨rfl,rfl,rfl⟩
theorem Tryz.u294:Tryz.abEnv.und 294=some (.int .u8):=by kernel_rfl
theorem Tryz.a294:Tryz.abEnv.agg 294=some false:=by kernel_rfl
theorem Tryz.s294:Tryz.abEnv.sz 294=some 1:=by kernel_rfl
theorem Tryz.z294:Tryz.abEnv.zero 294=some [.int .u8 0]:=by kernel_rfl
theorem Tryz.i294:aK xc 294=true:=by kernel_rfl
theorem Tryz.u324:Tryz.abEnv.und 324=some (.int .u32):=by kernel_rfl
theorem Tryz.a324:Tryz.abEnv.agg 324=some false:=by kernel_rfl
theorem Tryz.s324:Tryz.abEnv.sz 324=some 1:=by kernel_rfl
theorem Tryz.z324:Tryz.abEnv.zero 324=some [.int .u32 0]:=by kernel_rfl
theorem Tryz.i324:aK xc 324=true:=by kernel_rfl
theorem Tryz.a357:Tryz.abEnv.agg 357=some true:=by kernel_rfl
theorem Tryz.s357:Tryz.abEnv.sz 357=some 4:=by kernel_rfl
theorem Tryz.z357:Tryz.abEnv.zero 357=some [.pointer none,.pointer none,.pointer none,.string ⟨#[]⟩]:=by kernel_rfl
theorem Tryz.i357:aK xc 357=true:=by kernel_rfl
theorem Tryz.n357:av xc 357=some false:=by kernel_rfl
theorem Tryz.p357:placesOf xc 357=some [(0,1),(1,1),(2,1),(3,1)]:=by kernel_rfl
theorem Tryz.ff357(b o:Nat)(s:Option Nat):am xc 357 (.pointer (some ⟨b,o,s⟩)) 0=some (.pointer (some ⟨b,o+0,none⟩))/\am xc 357 (.pointer (some ⟨b,o,s⟩)) 1=some (.pointer (some ⟨b,o+1,none⟩))/\am xc 357 (.pointer (some ⟨b,o,s⟩)) 2=some (.pointer (some ⟨b,o+2,none⟩))/\am xc 357 (.pointer (some ⟨b,o,s⟩)) 3=some (.pointer (some ⟨b,o+3,none⟩)):=⟨rfl,rfl,rfl,rfl⟩
theorem Tryz.d357(x0 x1 x2 x3:Value):ar xc 357 (.agg ⟨[x0,x1,x2,x3]⟩) 0=some x0/\ar xc 357 (.agg ⟨[x0,x1,x2,x3]⟩) 1=some x1/\ar xc 357 (.agg ⟨[x0,x1,x2,x3]⟩) 2=some x2/\ar xc 357 (.agg ⟨[x0,x1,x2,x3]⟩) 3=some x3:=⟨rfl,rfl,rfl,rfl⟩
theorem Tryz.u358:Tryz.abEnv.und 358=some (.array 0 16):=by kernel_rfl
theorem Tryz.a358:Tryz.abEnv.agg 358=some true:=by kernel_rfl
theorem Tryz.s358:Tryz.abEnv.sz 358=some 0:=by kernel_rfl
theorem Tryz.z358:Tryz.abEnv.zero 358=some []:=by kernel_rfl
theorem Tryz.n358:av xc 358=some false:=by kernel_rfl
theorem Tryz.a360:Tryz.abEnv.agg 360=some true:=by kernel_rfl
theorem Tryz.s360:Tryz.abEnv.sz 360=some 0:=by kernel_rfl
theorem Tryz.z360:Tryz.abEnv.zero 360=some []:=by kernel_rfl
theorem Tryz.i360:aK xc 360=true:=by kernel_rfl
theorem Tryz.n360:av xc 360=some false:=by kernel_rfl
theorem Tryz.u362:Tryz.abEnv.und 362=some (.int .u8):=by kernel_rfl
theorem Tryz.a362:Tryz.abEnv.agg 362=some false:=by kernel_rfl
theorem Tryz.s362:Tryz.abEnv.sz 362=some 1:=by kernel_rfl
theorem Tryz.z362:Tryz.abEnv.zero 362=some [.int .u8 0]:=by kernel_rfl
theorem Tryz.i362:aK xc 362=true:=by kernel_rfl
theorem Tryz.a363:Tryz.abEnv.agg 363=some false:=by kernel_rfl
theorem Tryz.s363:Tryz.abEnv.sz 363=some 1:=by kernel_rfl
theorem Tryz.z363:Tryz.abEnv.zero 363=some [.nilFunc]:=by kernel_rfl
theorem Tryz.n363:av xc 363=some false:=by kernel_rfl
theorem Tryz.u364:Tryz.abEnv.und 364=some (.int .i32):=by kernel_rfl
theorem Tryz.a364:Tryz.abEnv.agg 364=some false:=by kernel_rfl
theorem Tryz.s364:Tryz.abEnv.sz 364=some 1:=by kernel_rfl
theorem Tryz.z364:Tryz.abEnv.zero 364=some [.int .i32 0]:=by kernel_rfl
theorem Tryz.i364:aK xc 364=true:=by kernel_rfl
theorem Tryz.u365:Tryz.abEnv.und 365=some (.int .i32):=by kernel_rfl
theorem Tryz.a365:Tryz.abEnv.agg 365=some false:=by kernel_rfl
theorem Tryz.s365:Tryz.abEnv.sz 365=some 1:=by kernel_rfl
theorem Tryz.z365:Tryz.abEnv.zero 365=some [.int .i32 0]:=by kernel_rfl
theorem Tryz.i365:aK xc 365=true:=by kernel_rfl
theorem Tryz.a367:Tryz.abEnv.agg 367=some true:=by kernel_rfl
theorem Tryz.s367:Tryz.abEnv.sz 367=some 11:=by kernel_rfl
theorem Tryz.z367:Tryz.abEnv.zero 367=some [.int .u64 0,.int .u64 0,.int .u32 0,.int .u8 0,.int .u8 0,.int .u8 0,.int .u8 0,.nilFunc,.pointer none,.int .i32 0,.int .i32 0]:=by kernel_rfl
theorem Tryz.i367:aK xc 367=true:=by kernel_rfl
theorem Tryz.n367:av xc 367=some false:=by kernel_rfl
theorem Tryz.p367:placesOf xc 367=some [(0,1),(1,1),(2,1),(3,1),(4,1),(5,1),(6,1),(7,1),(8,1),(9,1),(10,1)]:=by kernel_rfl
theorem Tryz.ff367(b o:Nat)(s:Option Nat):am xc 367 (.pointer (some ⟨b,o,s⟩)) 0=some (.pointer (some ⟨b,o+0,none⟩))/\am xc 367 (.pointer (some ⟨b,o,s⟩)) 1=some (.pointer (some ⟨b,o+1,none⟩))/\am xc 367 (.pointer (some ⟨b,o,s⟩)) 2=some (.pointer (some ⟨b,o+2,none⟩))/\am xc 367 (.pointer (some ⟨b,o,s⟩)) 3=some (.pointer (some ⟨b,o+3,none⟩))/\am xc 367 (.pointer (some ⟨b,o,s⟩)) 4=some (.pointer (some ⟨b,o+4,none⟩))/\am xc 367 (.pointer (some ⟨b,o,s⟩)) 5=some (.pointer (some ⟨b,o+5,none⟩))/\am xc 367 (.pointer (some ⟨b,o,s⟩)) 6=some (.pointer (some ⟨b,o+6,none⟩))/\am xc 367 (.pointer (some ⟨b,o,s⟩)) 7=some (.pointer (some ⟨b,o+7,none⟩))/\am xc 367 (.pointer (some ⟨b,o,s⟩)) 8=some (.pointer (some ⟨b,o+8,none⟩))/\am xc 367 (.pointer (some ⟨b,o,s⟩)) 9=some (.pointer (some ⟨b,o+9,none⟩))/\am xc 367 (.pointer (some ⟨b,o,s⟩)) 10=some (.pointer (some ⟨b,o+10,none⟩)):=⟨rfl,rfl,rfl,rfl,rfl,rfl,rfl,rfl,rfl,rfl,rfl⟩
theorem Tryz.d367(x0 x1 x2 x3 x4 x5 x6 x7 x8 x9 x10:Value):ar xc 367 (.agg ⟨[x0,x1,x2,x3,x4,x5,x6,x7,x8,x9,x10]⟩) 0=some x0/\ar xc 367 (.agg ⟨[x0,x1,x2,x3,x4,x5,x6,x7,x8,x9,x10]⟩) 1=some x1/\ar xc 367 (.agg ⟨[x0,x1,x2,x3,x4,x5,x6,x7,x8,x9,x10]⟩) 2=some x2/\ar xc 367 (.agg ⟨[x0,x1,x2,x3,x4,x5,x6,x7,x8,x9,x10]⟩) 3=some x3/\ar xc 367 (.agg ⟨[x0,x1,x2,x3,x4,x5,x6,x7,x8,x9,x10]⟩) 4=some x4/\ar xc 367 (.agg ⟨[x0,x1,x2,x3,x4,x5,x6,x7,x8,x9,x10]⟩) 5=some x5/\ar xc 367 (.agg ⟨[x0,x1,x2,x3,x4,x5,x6,x7,x8,x9,x10]⟩) 6=some x6/\ar xc 367 (.agg ⟨[x0,x1,x2,x3,x4,x5,x6,x7,x8,x9,x10]⟩) 7=some x7/\ar xc 367 (.agg ⟨[x0,x1,x2,x3,x4,x5,x6,x7,x8,x9,x10]⟩) 8=some x8/\ar xc 367 (.agg ⟨[x0,x1,x2,x3,x4,x5,x6,x7,x8,x9,x10]⟩) 9=some x9/\ar xc 367 (.agg ⟨[x0,x1,x2,x3,x4,x5,x6,x7,x8,x9,x10]⟩) 10=some x10:=⟨rfl,rfl,rfl,rfl,rfl,rfl,rfl,rfl,rfl,rfl,rfl⟩
theorem Tryz.e3:Tryz.abEnv.fn 3=some Tryz.f3:=by kernel_rfl
theorem Tryz.a23:Tryz.abEnv.agg 23=some true:=by kernel_rfl
theorem Tryz.s23:Tryz.abEnv.sz 23=some 2:=by kernel_rfl
theorem Tryz.z23:Tryz.abEnv.zero 23=some [.slice none 0 0,.slice none 0 0]:=by kernel_rfl
theorem Tryz.i23:aK xc 23=true:=by kernel_rfl
theorem Tryz.n23:av xc 23=some false:=by kernel_rfl
theorem Tryz.p23:placesOf xc 23=some [(0,1),(1,1)]:=by kernel_rfl
theorem Tryz.ff23(b o:Nat)(s:Option Nat):am xc 23 (.pointer (some ⟨b,o,s⟩)) 0=some (.pointer (some ⟨b,o+0,none⟩))/\am xc 23 (.pointer (some ⟨b,o,s⟩)) 1=some (.pointer (some ⟨b,o+1,none⟩)):=⟨rfl,rfl⟩
theorem Tryz.d23(x0 x1:Value):ar xc 23 (.agg ⟨[x0,x1]⟩) 0=some x0/\ar xc 23 (.agg ⟨[x0,x1]⟩) 1=some x1:=⟨rfl,rfl⟩
theorem Tryz.a27:Tryz.abEnv.agg 27=some true:=by kernel_rfl
theorem Tryz.s27:Tryz.abEnv.sz 27=some 4:=by kernel_rfl
theorem Tryz.z27:Tryz.abEnv.zero 27=some [.int .i64 0,.slice none 0 0,.slice none 0 0,.slice none 0 0]:=by kernel_rfl
theorem Tryz.i27:aK xc 27=true:=by kernel_rfl
theorem Tryz.n27:av xc 27=some false:=by kernel_rfl
theorem Tryz.p27:placesOf xc 27=some [(0,1),(1,1),(2,1),(3,1)]:=by kernel_rfl
theorem Tryz.ff27(b o:Nat)(s:Option Nat):am xc 27 (.pointer (some ⟨b,o,s⟩)) 0=some (.pointer (some ⟨b,o+0,none⟩))/\am xc 27 (.pointer (some ⟨b,o,s⟩)) 1=some (.pointer (some ⟨b,o+1,none⟩))/\am xc 27 (.pointer (some ⟨b,o,s⟩)) 2=some (.pointer (some ⟨b,o+2,none⟩))/\am xc 27 (.pointer (some ⟨b,o,s⟩)) 3=some (.pointer (some ⟨b,o+3,none⟩)):=⟨rfl,rfl,rfl,rfl⟩
theorem Tryz.d27(x0 x1 x2 x3:Value):ar xc 27 (.agg ⟨[x0,x1,x2,x3]⟩) 0=some x0/\ar xc 27 (.agg ⟨[x0,x1,x2,x3]⟩) 1=some x1/\ar xc 27 (.agg ⟨[x0,x1,x2,x3]⟩) 2=some x2/\ar xc 27 (.agg ⟨[x0,x1,x2,x3]⟩) 3=some x3:=⟨rfl,rfl,rfl,rfl⟩
theorem Tryz.e4:Tryz.abEnv.fn 4=some Tryz.f4:=by kernel_rfl
theorem Tryz.u52:Tryz.abEnv.und 52=some (.slice 164):=by kernel_rfl
theorem Tryz.a52:Tryz.abEnv.agg 52=some false:=by kernel_rfl
theorem Tryz.s52:Tryz.abEnv.sz 52=some 1:=by kernel_rfl
theorem Tryz.z52:Tryz.abEnv.zero 52=some [.slice none 0 0]:=by kernel_rfl
theorem Tryz.q52:jj xc 52=true:=by kernel_rfl
theorem Tryz.n52:av xc 52=some false:=by kernel_rfl
theorem Tryz.a54:Tryz.abEnv.agg 54=some true:=by kernel_rfl
theorem Tryz.s54:Tryz.abEnv.sz 54=some 3:=by kernel_rfl
theorem Tryz.z54:Tryz.abEnv.zero 54=some [.int .i64 0,.slice none 0 0,.slice none 0 0]:=by kernel_rfl
theorem Tryz.i54:aK xc 54=true:=by kernel_rfl
theorem Tryz.n54:av xc 54=some false:=by kernel_rfl
theorem Tryz.p54:placesOf xc 54=some [(0,1),(1,1),(2,1)]:=by kernel_rfl
theorem Tryz.ff54(b o:Nat)(s:Option Nat):am xc 54 (.pointer (some ⟨b,o,s⟩)) 0=some (.pointer (some ⟨b,o+0,none⟩))/\am xc 54 (.pointer (some ⟨b,o,s⟩)) 1=some (.pointer (some ⟨b,o+1,none⟩))/\am xc 54 (.pointer (some ⟨b,o,s⟩)) 2=some (.pointer (some ⟨b,o+2,none⟩)):=⟨rfl,rfl,rfl⟩
theorem Tryz.d54(x0 x1 x2:Value):ar xc 54 (.agg ⟨[x0,x1,x2]⟩) 0=some x0/\ar xc 54 (.agg ⟨[x0,x1,x2]⟩) 1=some x1/\ar xc 54 (.agg ⟨[x0,x1,x2]⟩) 2=some x2:=⟨rfl,rfl,rfl⟩
theorem Tryz.u55:Tryz.abEnv.und 55=some (.int .i64):=by kernel_rfl
theorem Tryz.a55:Tryz.abEnv.agg 55=some false:=by kernel_rfl
theorem Tryz.s55:Tryz.abEnv.sz 55=some 1:=by kernel_rfl
theorem Tryz.z55:Tryz.abEnv.zero 55=some [.int .i64 0]:=by kernel_rfl
theorem Tryz.i55:aK xc 55=true:=by kernel_rfl
theorem Tryz.a59:Tryz.abEnv.agg 59=some true:=by kernel_rfl
theorem Tryz.s59:Tryz.abEnv.sz 59=some 4:=by kernel_rfl
theorem Tryz.z59:Tryz.abEnv.zero 59=some [.int .i64 0,.int .i64 0,.slice none 0 0,.slice none 0 0]:=by kernel_rfl
theorem Tryz.i59:aK xc 59=true:=by kernel_rfl
theorem Tryz.n59:av xc 59=some false:=by kernel_rfl
theorem Tryz.p59:placesOf xc 59=some [(0,1),(1,1),(2,1),(3,1)]:=by kernel_rfl
theorem Tryz.ff59(b o:Nat)(s:Option Nat):am xc 59 (.pointer (some ⟨b,o,s⟩)) 0=some (.pointer (some ⟨b,o+0,none⟩))/\am xc 59 (.pointer (some ⟨b,o,s⟩)) 1=some (.pointer (some ⟨b,o+1,none⟩))/\am xc 59 (.pointer (some ⟨b,o,s⟩)) 2=some (.pointer (some ⟨b,o+2,none⟩))/\am xc 59 (.pointer (some ⟨b,o,s⟩)) 3=some (.pointer (some ⟨b,o+3,none⟩)):=⟨rfl,rfl,rfl,rfl⟩
theorem Tryz.d59(x0 x1 x2 x3:Value):ar xc 59 (.agg ⟨[x0,x1,x2,x3]⟩) 0=some x0/\ar xc 59 (.agg ⟨[x0,x1,x2,x3]⟩) 1=some x1/\ar xc 59 (.agg ⟨[x0,x1,x2,x3]⟩) 2=some x2/\ar xc 59 (.agg ⟨[x0,x1,x2,x3]⟩) 3=some x3:=⟨rfl,rfl,rfl,rfl⟩
theorem Tryz.a164:Tryz.abEnv.agg 164=some true:=by kernel_rfl
theorem Tryz.s164:Tryz.abEnv.sz 164=some 4:=by kernel_rfl
theorem Tryz.z164:Tryz.abEnv.zero 164=some [.int .i64 0,.int .i64 0,.int .i64 0,.int .i64 0]:=by kernel_rfl
theorem Tryz.i164:aK xc 164=true:=by kernel_rfl
theorem Tryz.n164:av xc 164=some false:=by kernel_rfl
theorem Tryz.p164:placesOf xc 164=some [(0,1),(1,1),(2,1),(3,1)]:=by kernel_rfl
theorem Tryz.ff164(b o:Nat)(s:Option Nat):am xc 164 (.pointer (some ⟨b,o,s⟩)) 0=some (.pointer (some ⟨b,o+0,none⟩))/\am xc 164 (.pointer (some ⟨b,o,s⟩)) 1=some (.pointer (some ⟨b,o+1,none⟩))/\am xc 164 (.pointer (some ⟨b,o,s⟩)) 2=some (.pointer (some ⟨b,o+2,none⟩))/\am xc 164 (.pointer (some ⟨b,o,s⟩)) 3=some (.pointer (some ⟨b,o+3,none⟩)):=⟨rfl,rfl,rfl,rfl⟩
theorem Tryz.d164(x0 x1 x2 x3:Value):ar xc 164 (.agg ⟨[x0,x1,x2,x3]⟩) 0=some x0/\ar xc 164 (.agg ⟨[x0,x1,x2,x3]⟩) 1=some x1/\ar xc 164 (.agg ⟨[x0,x1,x2,x3]⟩) 2=some x2/\ar xc 164 (.agg ⟨[x0,x1,x2,x3]⟩) 3=some x3:=⟨rfl,rfl,rfl,rfl⟩
theorem Tryz.e164E:dJ xc 164 32 4 [.int .i64 0,.int .i64 0,.int .i64 0,.int .i64 0]:=⟨⟨_,rfl,by kernel_rfl,by kernel_rfl⟩,Tryz.z164,rfl⟩
theorem Tryz.u71:Tryz.abEnv.und 71=some (.pointer 73):=by kernel_rfl
theorem Tryz.a71:Tryz.abEnv.agg 71=some false:=by kernel_rfl
theorem Tryz.s71:Tryz.abEnv.sz 71=some 1:=by kernel_rfl
theorem Tryz.z71:Tryz.abEnv.zero 71=some [.pointer none]:=by kernel_rfl
theorem Tryz.q71:eH xc 71=true:=by kernel_rfl
theorem Tryz.i71:aK xc 71=true:=by kernel_rfl
theorem Tryz.n71:av xc 71=some false:=by kernel_rfl
theorem Tryz.a73:Tryz.abEnv.agg 73=some true:=by kernel_rfl
theorem Tryz.s73:Tryz.abEnv.sz 73=some 2:=by kernel_rfl
theorem Tryz.z73:Tryz.abEnv.zero 73=some [.slice none 0 0,.int .i64 0]:=by kernel_rfl
theorem Tryz.i73:aK xc 73=true:=by kernel_rfl
theorem Tryz.n73:av xc 73=some false:=by kernel_rfl
theorem Tryz.p73:placesOf xc 73=some [(0,1),(1,1)]:=by kernel_rfl
theorem Tryz.ff73(b o:Nat)(s:Option Nat):am xc 73 (.pointer (some ⟨b,o,s⟩)) 0=some (.pointer (some ⟨b,o+0,none⟩))/\am xc 73 (.pointer (some ⟨b,o,s⟩)) 1=some (.pointer (some ⟨b,o+1,none⟩)):=⟨rfl,rfl⟩
theorem Tryz.d73(x0 x1:Value):ar xc 73 (.agg ⟨[x0,x1]⟩) 0=some x0/\ar xc 73 (.agg ⟨[x0,x1]⟩) 1=some x1:=⟨rfl,rfl⟩
theorem Tryz.a76:Tryz.abEnv.agg 76=some false:=by kernel_rfl
theorem Tryz.s76:Tryz.abEnv.sz 76=some 1:=by kernel_rfl
theorem Tryz.z76:Tryz.abEnv.zero 76=some [.nilIface]:=by kernel_rfl
theorem Tryz.q76:isIface xc 76=true:=by kernel_rfl
theorem Tryz.n76:av xc 76=some false:=by kernel_rfl
theorem Tryz.u101:Tryz.abEnv.und 101=some (.slice 25):=by kernel_rfl
theorem Tryz.a101:Tryz.abEnv.agg 101=some false:=by kernel_rfl
theorem Tryz.s101:Tryz.abEnv.sz 101=some 1:=by kernel_rfl
theorem Tryz.z101:Tryz.abEnv.zero 101=some [.slice none 0 0]:=by kernel_rfl
theorem Tryz.q101:jj xc 101=true:=by kernel_rfl
theorem Tryz.n101:av xc 101=some false:=by kernel_rfl
theorem Tryz.e12:Tryz.abEnv.fn 12=some Tryz.f12:=by kernel_rfl
theorem Tryz.a110:Tryz.abEnv.agg 110=some false:=by kernel_rfl
theorem Tryz.s110:Tryz.abEnv.sz 110=some 1:=by kernel_rfl
theorem Tryz.z110:Tryz.abEnv.zero 110=some [.nilFunc]:=by kernel_rfl
theorem Tryz.n110:av xc 110=some false:=by kernel_rfl
theorem Tryz.e14:Tryz.abEnv.fn 14=some Tryz.f14:=by kernel_rfl
theorem Tryz.e16:Tryz.abEnv.fn 16=some Tryz.f16:=by kernel_rfl
theorem Tryz.e17:Tryz.abEnv.fn 17=some Tryz.f17:=by kernel_rfl
theorem Tryz.e18:Tryz.abEnv.fn 18=some Tryz.f18:=by kernel_rfl
theorem Tryz.e19:Tryz.abEnv.fn 19=some Tryz.f19:=by kernel_rfl
theorem Tryz.e22:Tryz.abEnv.fn 22=some Tryz.f22:=by kernel_rfl
theorem Tryz.a122:Tryz.abEnv.agg 122=some false:=by kernel_rfl
theorem Tryz.s122:Tryz.abEnv.sz 122=some 1:=by kernel_rfl
theorem Tryz.z122:Tryz.abEnv.zero 122=some [.nilFunc]:=by kernel_rfl
theorem Tryz.n122:av xc 122=some false:=by kernel_rfl
theorem Tryz.e24:Tryz.abEnv.fn 24=some Tryz.f24:=by kernel_rfl
theorem Tryz.e25:Tryz.abEnv.fn 25=some Tryz.f25:=by kernel_rfl
theorem Tryz.e26:Tryz.abEnv.fn 26=some Tryz.f26:=by kernel_rfl
theorem Tryz.a124:Tryz.abEnv.agg 124=some false:=by kernel_rfl
theorem Tryz.s124:Tryz.abEnv.sz 124=some 1:=by kernel_rfl
theorem Tryz.z124:Tryz.abEnv.zero 124=some [.nilFunc]:=by kernel_rfl
theorem Tryz.n124:av xc 124=some false:=by kernel_rfl
theorem Tryz.u127:Tryz.abEnv.und 127=some (.pointer 202):=by kernel_rfl
theorem Tryz.a127:Tryz.abEnv.agg 127=some false:=by kernel_rfl
theorem Tryz.s127:Tryz.abEnv.sz 127=some 1:=by kernel_rfl
theorem Tryz.z127:Tryz.abEnv.zero 127=some [.pointer none]:=by kernel_rfl
theorem Tryz.q127:eH xc 127=true:=by kernel_rfl
theorem Tryz.i127:aK xc 127=true:=by kernel_rfl
theorem Tryz.n127:av xc 127=some false:=by kernel_rfl
theorem Tryz.u198:Tryz.abEnv.und 198=some (.pointer 268):=by kernel_rfl
theorem Tryz.a198:Tryz.abEnv.agg 198=some false:=by kernel_rfl
theorem Tryz.s198:Tryz.abEnv.sz 198=some 1:=by kernel_rfl
theorem Tryz.z198:Tryz.abEnv.zero 198=some [.pointer none]:=by kernel_rfl
theorem Tryz.q198:eH xc 198=true:=by kernel_rfl
theorem Tryz.i198:aK xc 198=true:=by kernel_rfl
theorem Tryz.n198:av xc 198=some false:=by kernel_rfl
theorem Tryz.a200:Tryz.abEnv.agg 200=some false:=by kernel_rfl
theorem Tryz.s200:Tryz.abEnv.sz 200=some 1:=by kernel_rfl
theorem Tryz.z200:Tryz.abEnv.zero 200=some [.nilFunc]:=by kernel_rfl
theorem Tryz.n200:av xc 200=some false:=by kernel_rfl
theorem Tryz.a202:Tryz.abEnv.agg 202=some true:=by kernel_rfl
theorem Tryz.s202:Tryz.abEnv.sz 202=some 8:=by kernel_rfl
theorem Tryz.z202:Tryz.abEnv.zero 202=some [.pointer none,.pointer none,.slice none 0 0,.slice none 0 0,.slice none 0 0,.nilFunc,.nilFunc,.slice none 0 0]:=by kernel_rfl
theorem Tryz.i202:aK xc 202=true:=by kernel_rfl
theorem Tryz.n202:av xc 202=some false:=by kernel_rfl
theorem Tryz.p202:placesOf xc 202=some [(0,1),(1,1),(2,1),(3,1),(4,1),(5,1),(6,1),(7,1)]:=by kernel_rfl
theorem Tryz.ff202(b o:Nat)(s:Option Nat):am xc 202 (.pointer (some ⟨b,o,s⟩)) 0=some (.pointer (some ⟨b,o+0,none⟩))/\am xc 202 (.pointer (some ⟨b,o,s⟩)) 1=some (.pointer (some ⟨b,o+1,none⟩))/\am xc 202 (.pointer (some ⟨b,o,s⟩)) 2=some (.pointer (some ⟨b,o+2,none⟩))/\am xc 202 (.pointer (some ⟨b,o,s⟩)) 3=some (.pointer (some ⟨b,o+3,none⟩))/\am xc 202 (.pointer (some ⟨b,o,s⟩)) 4=some (.pointer (some ⟨b,o+4,none⟩))/\am xc 202 (.pointer (some ⟨b,o,s⟩)) 5=some (.pointer (some ⟨b,o+5,none⟩))/\am xc 202 (.pointer (some ⟨b,o,s⟩)) 6=some (.pointer (some ⟨b,o+6,none⟩))/\am xc 202 (.pointer (some ⟨b,o,s⟩)) 7=some (.pointer (some ⟨b,o+7,none⟩)):=⟨rfl,rfl,rfl,rfl,rfl,rfl,rfl,rfl⟩
theorem Tryz.d202(x0 x1 x2 x3 x4 x5 x6 x7:Value):ar xc 202 (.agg ⟨[x0,x1,x2,x3,x4,x5,x6,x7]⟩) 0=some x0/\ar xc 202 (.agg ⟨[x0,x1,x2,x3,x4,x5,x6,x7]⟩) 1=some x1/\ar xc 202 (.agg ⟨[x0,x1,x2,x3,x4,x5,x6,x7]⟩) 2=some x2/\ar xc 202 (.agg ⟨[x0,x1,x2,x3,x4,x5,x6,x7]⟩) 3=some x3/\ar xc 202 (.agg ⟨[x0,x1,x2,x3,x4,x5,x6,x7]⟩) 4=some x4/\ar xc 202 (.agg ⟨[x0,x1,x2,x3,x4,x5,x6,x7]⟩) 5=some x5/\ar xc 202 (.agg ⟨[x0,x1,x2,x3,x4,x5,x6,x7]⟩) 6=some x6/\ar xc 202 (.agg ⟨[x0,x1,x2,x3,x4,x5,x6,x7]⟩) 7=some x7:=⟨rfl,rfl,rfl,rfl,rfl,rfl,rfl,rfl⟩
theorem Tryz.e27:Tryz.abEnv.fn 27=some Tryz.f27:=by kernel_rfl
theorem Tryz.e28:Tryz.abEnv.fn 28=some Tryz.f28:=by kernel_rfl
theorem Tryz.e31:Tryz.abEnv.fn 31=some Tryz.f31:=by kernel_rfl
theorem Tryz.a137:Tryz.abEnv.agg 137=some true:=by kernel_rfl
theorem Tryz.s137:Tryz.abEnv.sz 137=some 4:=by kernel_rfl
theorem Tryz.z137:Tryz.abEnv.zero 137=some [.int .i64 0,.int .i64 0,.int .i64 0,.int .i64 0]:=by kernel_rfl
theorem Tryz.i137:aK xc 137=true:=by kernel_rfl
theorem Tryz.n137:av xc 137=some false:=by kernel_rfl
theorem Tryz.p137:placesOf xc 137=some [(0,1),(1,1),(2,1),(3,1)]:=by kernel_rfl
theorem Tryz.ff137(b o:Nat)(s:Option Nat):am xc 137 (.pointer (some ⟨b,o,s⟩)) 0=some (.pointer (some ⟨b,o+0,none⟩))/\am xc 137 (.pointer (some ⟨b,o,s⟩)) 1=some (.pointer (some ⟨b,o+1,none⟩))/\am xc 137 (.pointer (some ⟨b,o,s⟩)) 2=some (.pointer (some ⟨b,o+2,none⟩))/\am xc 137 (.pointer (some ⟨b,o,s⟩)) 3=some (.pointer (some ⟨b,o+3,none⟩)):=⟨rfl,rfl,rfl,rfl⟩
theorem Tryz.d137(x0 x1 x2 x3:Value):ar xc 137 (.agg ⟨[x0,x1,x2,x3]⟩) 0=some x0/\ar xc 137 (.agg ⟨[x0,x1,x2,x3]⟩) 1=some x1/\ar xc 137 (.agg ⟨[x0,x1,x2,x3]⟩) 2=some x2/\ar xc 137 (.agg ⟨[x0,x1,x2,x3]⟩) 3=some x3:=⟨rfl,rfl,rfl,rfl⟩
theorem Tryz.u139:Tryz.abEnv.und 139=some (.pointer 137):=by kernel_rfl
theorem Tryz.a139:Tryz.abEnv.agg 139=some false:=by kernel_rfl
theorem Tryz.s139:Tryz.abEnv.sz 139=some 1:=by kernel_rfl
theorem Tryz.z139:Tryz.abEnv.zero 139=some [.pointer none]:=by kernel_rfl
theorem Tryz.q139:eH xc 139=true:=by kernel_rfl
theorem Tryz.i139:aK xc 139=true:=by kernel_rfl
theorem Tryz.n139:av xc 139=some false:=by kernel_rfl
theorem Tryz.a141:Tryz.abEnv.agg 141=some true:=by kernel_rfl
theorem Tryz.s141:Tryz.abEnv.sz 141=some 1:=by kernel_rfl
theorem Tryz.z141:Tryz.abEnv.zero 141=some [.pointer none]:=by kernel_rfl
theorem Tryz.i141:aK xc 141=true:=by kernel_rfl
theorem Tryz.n141:av xc 141=some false:=by kernel_rfl
theorem Tryz.p141:placesOf xc 141=some [(0,1)]:=by kernel_rfl
theorem Tryz.ff141(b o:Nat)(s:Option Nat):am xc 141 (.pointer (some ⟨b,o,s⟩)) 0=some (.pointer (some ⟨b,o+0,none⟩)):=rfl
theorem Tryz.d141(x0:Value):ar xc 141 (.agg ⟨[x0]⟩) 0=some x0:=rfl
theorem Tryz.e32:Tryz.abEnv.fn 32=some Tryz.f32:=by kernel_rfl
theorem Tryz.u185:Tryz.abEnv.und 185=some (.int .u64):=by kernel_rfl
theorem Tryz.a185:Tryz.abEnv.agg 185=some false:=by kernel_rfl
theorem Tryz.s185:Tryz.abEnv.sz 185=some 1:=by kernel_rfl
theorem Tryz.z185:Tryz.abEnv.zero 185=some [.int .u64 0]:=by kernel_rfl
theorem Tryz.i185:aK xc 185=true:=by kernel_rfl
theorem Tryz.a60:Tryz.abEnv.agg 60=some false:=by kernel_rfl
theorem Tryz.s60:Tryz.abEnv.sz 60=some 1:=by kernel_rfl
theorem Tryz.z60:Tryz.abEnv.zero 60=some [.nilFunc]:=by kernel_rfl
theorem Tryz.n60:av xc 60=some false:=by kernel_rfl
theorem Tryz.e53:Tryz.abEnv.fn 53=some Tryz.f53:=by kernel_rfl
theorem Tryz.e54:Tryz.abEnv.fn 54=some Tryz.f54:=by kernel_rfl
theorem Tryz.e55:Tryz.abEnv.fn 55=some Tryz.f55:=by kernel_rfl
theorem Tryz.e56:Tryz.abEnv.fn 56=some Tryz.f56:=by kernel_rfl
theorem Tryz.e57:Tryz.abEnv.fn 57=some Tryz.f57:=by kernel_rfl
theorem Tryz.e58:Tryz.abEnv.fn 58=some Tryz.f58:=by kernel_rfl
theorem Tryz.e60:Tryz.abEnv.fn 60=some Tryz.f60:=by kernel_rfl
theorem Tryz.e62:Tryz.abEnv.fn 62=some Tryz.f62:=by kernel_rfl
theorem Tryz.e63:Tryz.abEnv.fn 63=some Tryz.f63:=by kernel_rfl
theorem Tryz.e64:Tryz.abEnv.fn 64=some Tryz.f64:=by kernel_rfl
theorem Tryz.e65:Tryz.abEnv.fn 65=some Tryz.f65:=by kernel_rfl
theorem Tryz.e66:Tryz.abEnv.fn 66=some Tryz.f66:=by kernel_rfl
theorem Tryz.e67:Tryz.abEnv.fn 67=some Tryz.f67:=by kernel_rfl
theorem Tryz.e68:Tryz.abEnv.fn 68=some Tryz.f68:=by kernel_rfl
theorem Tryz.e69:Tryz.abEnv.fn 69=some Tryz.f69:=by kernel_rfl
theorem Tryz.e70:Tryz.abEnv.fn 70=some Tryz.f70:=by kernel_rfl
theorem Tryz.a266:Tryz.abEnv.agg 266=some true:=by kernel_rfl
theorem Tryz.s266:Tryz.abEnv.sz 266=some 2:=by kernel_rfl
theorem Tryz.z266:Tryz.abEnv.zero 266=some [.slice none 0 0,.map none]:=by kernel_rfl
theorem Tryz.i266:aK xc 266=true:=by kernel_rfl
theorem Tryz.n266:av xc 266=some false:=by kernel_rfl
theorem Tryz.p266:placesOf xc 266=some [(0,1),(1,1)]:=by kernel_rfl
theorem Tryz.ff266(b o:Nat)(s:Option Nat):am xc 266 (.pointer (some ⟨b,o,s⟩)) 0=some (.pointer (some ⟨b,o+0,none⟩))/\am xc 266 (.pointer (some ⟨b,o,s⟩)) 1=some (.pointer (some ⟨b,o+1,none⟩)):=⟨rfl,rfl⟩
theorem Tryz.d266(x0 x1:Value):ar xc 266 (.agg ⟨[x0,x1]⟩) 0=some x0/\ar xc 266 (.agg ⟨[x0,x1]⟩) 1=some x1:=⟨rfl,rfl⟩
theorem Tryz.a268:Tryz.abEnv.agg 268=some true:=by kernel_rfl
theorem Tryz.s268:Tryz.abEnv.sz 268=some 3:=by kernel_rfl
theorem Tryz.z268:Tryz.abEnv.zero 268=some [.slice none 0 0,.map none,.int .i64 0]:=by kernel_rfl
theorem Tryz.i268:aK xc 268=true:=by kernel_rfl
theorem Tryz.n268:av xc 268=some false:=by kernel_rfl
theorem Tryz.p268:placesOf xc 268=some [(0,2),(2,1)]:=by kernel_rfl
theorem Tryz.ff268(b o:Nat)(s:Option Nat):am xc 268 (.pointer (some ⟨b,o,s⟩)) 0=some (.pointer (some ⟨b,o+0,none⟩))/\am xc 268 (.pointer (some ⟨b,o,s⟩)) 1=some (.pointer (some ⟨b,o+2,none⟩)):=⟨rfl,rfl⟩
theorem Tryz.d268(x0 x1 x2:Value):ar xc 268 (.agg ⟨[x0,x1,x2]⟩) 0=some (.agg ⟨[x0,x1]⟩)/\ar xc 268 (.agg ⟨[x0,x1,x2]⟩) 1=some x2:=⟨rfl,rfl⟩
theorem Tryz.e71:Tryz.abEnv.fn 71=some Tryz.f71:=by kernel_rfl
theorem Tryz.e72:Tryz.abEnv.fn 72=some Tryz.f72:=by kernel_rfl
theorem Tryz.e75:Tryz.abEnv.fn 75=some Tryz.f75:=by kernel_rfl
theorem Tryz.e76:Tryz.abEnv.fn 76=some Tryz.f76:=by kernel_rfl
theorem Tryz.e77:Tryz.abEnv.fn 77=some Tryz.f77:=by kernel_rfl
theorem Tryz.a219:Tryz.abEnv.agg 219=some false:=by kernel_rfl
theorem Tryz.s219:Tryz.abEnv.sz 219=some 1:=by kernel_rfl
theorem Tryz.z219:Tryz.abEnv.zero 219=some [.nilFunc]:=by kernel_rfl
theorem Tryz.n219:av xc 219=some false:=by kernel_rfl
theorem Tryz.a220:Tryz.abEnv.agg 220=some false:=by kernel_rfl
theorem Tryz.s220:Tryz.abEnv.sz 220=some 1:=by kernel_rfl
theorem Tryz.z220:Tryz.abEnv.zero 220=some [.nilFunc]:=by kernel_rfl
theorem Tryz.n220:av xc 220=some false:=by kernel_rfl
theorem Tryz.e79:Tryz.abEnv.fn 79=some Tryz.f79:=by kernel_rfl
theorem Tryz.e80:Tryz.abEnv.fn 80=some Tryz.f80:=by kernel_rfl
theorem Tryz.a42:Tryz.abEnv.agg 42=some false:=by kernel_rfl
theorem Tryz.s42:Tryz.abEnv.sz 42=some 1:=by kernel_rfl
theorem Tryz.z42:Tryz.abEnv.zero 42=some [.nilFunc]:=by kernel_rfl
theorem Tryz.n42:av xc 42=some false:=by kernel_rfl
theorem Tryz.u242:Tryz.abEnv.und 242=some (.map 3 3):=by kernel_rfl
theorem Tryz.a242:Tryz.abEnv.agg 242=some false:=by kernel_rfl
theorem Tryz.s242:Tryz.abEnv.sz 242=some 1:=by kernel_rfl
theorem Tryz.z242:Tryz.abEnv.zero 242=some [.map none]:=by kernel_rfl
theorem Tryz.n242:av xc 242=some false:=by kernel_rfl
theorem Tryz.a246:Tryz.abEnv.agg 246=some true:=by kernel_rfl
theorem Tryz.s246:Tryz.abEnv.sz 246=some 3:=by kernel_rfl
theorem Tryz.z246:Tryz.abEnv.zero 246=some [.slice none 0 0,.slice none 0 0,.slice none 0 0]:=by kernel_rfl
theorem Tryz.i246:aK xc 246=true:=by kernel_rfl
theorem Tryz.n246:av xc 246=some false:=by kernel_rfl
theorem Tryz.p246:placesOf xc 246=some [(0,1),(1,1),(2,1)]:=by kernel_rfl
theorem Tryz.ff246(b o:Nat)(s:Option Nat):am xc 246 (.pointer (some ⟨b,o,s⟩)) 0=some (.pointer (some ⟨b,o+0,none⟩))/\am xc 246 (.pointer (some ⟨b,o,s⟩)) 1=some (.pointer (some ⟨b,o+1,none⟩))/\am xc 246 (.pointer (some ⟨b,o,s⟩)) 2=some (.pointer (some ⟨b,o+2,none⟩)):=⟨rfl,rfl,rfl⟩
theorem Tryz.d246(x0 x1 x2:Value):ar xc 246 (.agg ⟨[x0,x1,x2]⟩) 0=some x0/\ar xc 246 (.agg ⟨[x0,x1,x2]⟩) 1=some x1/\ar xc 246 (.agg ⟨[x0,x1,x2]⟩) 2=some x2:=⟨rfl,rfl,rfl⟩
theorem Tryz.e90:Tryz.abEnv.fn 90=some Tryz.f90:=by kernel_rfl
theorem Tryz.e102:Tryz.abEnv.fn 102=some Tryz.f102:=by kernel_rfl
theorem Tryz.e115:Tryz.abEnv.fn 115=some Tryz.f115:=by kernel_rfl
theorem Tryz.e116:Tryz.abEnv.fn 116=some Tryz.f116:=by kernel_rfl
theorem Tryz.a193:Tryz.abEnv.agg 193=some false:=by kernel_rfl
theorem Tryz.s193:Tryz.abEnv.sz 193=some 1:=by kernel_rfl
theorem Tryz.z193:Tryz.abEnv.zero 193=some [.nilFunc]:=by kernel_rfl
theorem Tryz.n193:av xc 193=some false:=by kernel_rfl
theorem Tryz.e117:Tryz.abEnv.fn 117=some Tryz.f117:=by kernel_rfl
theorem Tryz.e118:Tryz.abEnv.fn 118=some Tryz.f118:=by kernel_rfl
theorem Tryz.e119:Tryz.abEnv.fn 119=some Tryz.f119:=by kernel_rfl
theorem Tryz.e120:Tryz.abEnv.fn 120=some Tryz.f120:=by kernel_rfl
theorem Tryz.e121:Tryz.abEnv.fn 121=some Tryz.f121:=by kernel_rfl
theorem Tryz.e122:Tryz.abEnv.fn 122=some Tryz.f122:=by kernel_rfl
theorem Tryz.e123:Tryz.abEnv.fn 123=some Tryz.f123:=by kernel_rfl
theorem Tryz.e124:Tryz.abEnv.fn 124=some Tryz.f124:=by kernel_rfl
theorem Tryz.e128:Tryz.abEnv.fn 128=some Tryz.f128:=by kernel_rfl
theorem Tryz.u264:Tryz.abEnv.und 264=some (.slice 274):=by kernel_rfl
theorem Tryz.a264:Tryz.abEnv.agg 264=some false:=by kernel_rfl
theorem Tryz.s264:Tryz.abEnv.sz 264=some 1:=by kernel_rfl
theorem Tryz.z264:Tryz.abEnv.zero 264=some [.slice none 0 0]:=by kernel_rfl
theorem Tryz.q264:jj xc 264=true:=by kernel_rfl
theorem Tryz.n264:av xc 264=some false:=by kernel_rfl
theorem Tryz.a274:Tryz.abEnv.agg 274=some true:=by kernel_rfl
theorem Tryz.s274:Tryz.abEnv.sz 274=some 2:=by kernel_rfl
theorem Tryz.z274:Tryz.abEnv.zero 274=some [.int .i64 0,.int .i64 0]:=by kernel_rfl
theorem Tryz.i274:aK xc 274=true:=by kernel_rfl
theorem Tryz.n274:av xc 274=some false:=by kernel_rfl
theorem Tryz.p274:placesOf xc 274=some [(0,1),(1,1)]:=by kernel_rfl
theorem Tryz.ff274(b o:Nat)(s:Option Nat):am xc 274 (.pointer (some ⟨b,o,s⟩)) 0=some (.pointer (some ⟨b,o+0,none⟩))/\am xc 274 (.pointer (some ⟨b,o,s⟩)) 1=some (.pointer (some ⟨b,o+1,none⟩)):=⟨rfl,rfl⟩
theorem Tryz.d274(x0 x1:Value):ar xc 274 (.agg ⟨[x0,x1]⟩) 0=some x0/\ar xc 274 (.agg ⟨[x0,x1]⟩) 1=some x1:=⟨rfl,rfl⟩
theorem Tryz.e274E:dJ xc 274 16 2 [.int .i64 0,.int .i64 0]:=⟨⟨_,rfl,by kernel_rfl,by kernel_rfl⟩,Tryz.z274,rfl⟩
theorem Tryz.e129:Tryz.abEnv.fn 129=some Tryz.f129:=by kernel_rfl
theorem Tryz.e130:Tryz.abEnv.fn 130=some Tryz.f130:=by kernel_rfl
theorem Tryz.e131:Tryz.abEnv.fn 131=some Tryz.f131:=by kernel_rfl
theorem Tryz.e132:Tryz.abEnv.fn 132=some Tryz.f132:=by kernel_rfl
theorem Tryz.e133:Tryz.abEnv.fn 133=some Tryz.f133:=by kernel_rfl
theorem Tryz.e134:Tryz.abEnv.fn 134=some Tryz.f134:=by kernel_rfl
theorem Tryz.e135:Tryz.abEnv.fn 135=some Tryz.f135:=by kernel_rfl
theorem Tryz.e136:Tryz.abEnv.fn 136=some Tryz.f136:=by kernel_rfl
theorem Tryz.e137:Tryz.abEnv.fn 137=some Tryz.f137:=by kernel_rfl
theorem Tryz.e138:Tryz.abEnv.fn 138=some Tryz.f138:=by kernel_rfl
theorem Tryz.e140:Tryz.abEnv.fn 140=some Tryz.f140:=by kernel_rfl
theorem Tryz.a213:Tryz.abEnv.agg 213=some true:=by kernel_rfl
theorem Tryz.s213:Tryz.abEnv.sz 213=some 1:=by kernel_rfl
theorem Tryz.z213:Tryz.abEnv.zero 213=some [.pointer none]:=by kernel_rfl
theorem Tryz.i213:aK xc 213=true:=by kernel_rfl
theorem Tryz.n213:av xc 213=some false:=by kernel_rfl
theorem Tryz.p213:placesOf xc 213=some [(0,1)]:=by kernel_rfl
theorem Tryz.ff213(b o:Nat)(s:Option Nat):am xc 213 (.pointer (some ⟨b,o,s⟩)) 0=some (.pointer (some ⟨b,o+0,none⟩)):=rfl
theorem Tryz.d213(x0:Value):ar xc 213 (.agg ⟨[x0]⟩) 0=some x0:=rfl
theorem Tryz.e141:Tryz.abEnv.fn 141=some Tryz.f141:=by kernel_rfl
theorem Tryz.a279:Tryz.abEnv.agg 279=some false:=by kernel_rfl
theorem Tryz.s279:Tryz.abEnv.sz 279=some 1:=by kernel_rfl
theorem Tryz.z279:Tryz.abEnv.zero 279=some [.nilFunc]:=by kernel_rfl
theorem Tryz.n279:av xc 279=some false:=by kernel_rfl
theorem Tryz.a281:Tryz.abEnv.agg 281=some false:=by kernel_rfl
theorem Tryz.s281:Tryz.abEnv.sz 281=some 1:=by kernel_rfl
theorem Tryz.z281:Tryz.abEnv.zero 281=some [.nilFunc]:=by kernel_rfl
theorem Tryz.n281:av xc 281=some false:=by kernel_rfl
theorem Tryz.e281E:dJ xc 281 8 1 [.nilFunc]:=⟨⟨_,rfl,by kernel_rfl,by kernel_rfl⟩,Tryz.z281,rfl⟩
theorem Tryz.u283:Tryz.abEnv.und 283=some (.slice 281):=by kernel_rfl
theorem Tryz.a283:Tryz.abEnv.agg 283=some false:=by kernel_rfl
theorem Tryz.s283:Tryz.abEnv.sz 283=some 1:=by kernel_rfl
theorem Tryz.z283:Tryz.abEnv.zero 283=some [.slice none 0 0]:=by kernel_rfl
theorem Tryz.q283:jj xc 283=true:=by kernel_rfl
theorem Tryz.n283:av xc 283=some false:=by kernel_rfl
theorem Tryz.a285:Tryz.abEnv.agg 285=some true:=by kernel_rfl
theorem Tryz.s285:Tryz.abEnv.sz 285=some 6:=by kernel_rfl
theorem Tryz.z285:Tryz.abEnv.zero 285=some [.int .i64 0,.int .i64 0,.int .i64 0,.int .i64 0,.int .i64 0,.int .i64 0]:=by kernel_rfl
theorem Tryz.i285:aK xc 285=true:=by kernel_rfl
theorem Tryz.n285:av xc 285=some false:=by kernel_rfl
theorem Tryz.p285:placesOf xc 285=some [(0,1),(1,1),(2,1),(3,1),(4,1),(5,1)]:=by kernel_rfl
theorem Tryz.ff285(b o:Nat)(s:Option Nat):am xc 285 (.pointer (some ⟨b,o,s⟩)) 0=some (.pointer (some ⟨b,o+0,none⟩))/\am xc 285 (.pointer (some ⟨b,o,s⟩)) 1=some (.pointer (some ⟨b,o+1,none⟩))/\am xc 285 (.pointer (some ⟨b,o,s⟩)) 2=some (.pointer (some ⟨b,o+2,none⟩))/\am xc 285 (.pointer (some ⟨b,o,s⟩)) 3=some (.pointer (some ⟨b,o+3,none⟩))/\am xc 285 (.pointer (some ⟨b,o,s⟩)) 4=some (.pointer (some ⟨b,o+4,none⟩))/\am xc 285 (.pointer (some ⟨b,o,s⟩)) 5=some (.pointer (some ⟨b,o+5,none⟩)):=⟨rfl,rfl,rfl,rfl,rfl,rfl⟩
theorem Tryz.d285(x0 x1 x2 x3 x4 x5:Value):ar xc 285 (.agg ⟨[x0,x1,x2,x3,x4,x5]⟩) 0=some x0/\ar xc 285 (.agg ⟨[x0,x1,x2,x3,x4,x5]⟩) 1=some x1/\ar xc 285 (.agg ⟨[x0,x1,x2,x3,x4,x5]⟩) 2=some x2/\ar xc 285 (.agg ⟨[x0,x1,x2,x3,x4,x5]⟩) 3=some x3/\ar xc 285 (.agg ⟨[x0,x1,x2,x3,x4,x5]⟩) 4=some x4/\ar xc 285 (.agg ⟨[x0,x1,x2,x3,x4,x5]⟩) 5=some x5:=⟨rfl,rfl,rfl,rfl,rfl,rfl⟩
theorem Tryz.e285E:dJ xc 285 48 6 [.int .i64 0,.int .i64 0,.int .i64 0,.int .i64 0,.int .i64 0,.int .i64 0]:=⟨⟨_,rfl,by kernel_rfl,by kernel_rfl⟩,Tryz.z285,rfl⟩
theorem Tryz.e142:Tryz.abEnv.fn 142=some Tryz.f142:=by kernel_rfl
theorem Tryz.e144:Tryz.abEnv.fn 144=some Tryz.f144:=by kernel_rfl
theorem Tryz.e145:Tryz.abEnv.fn 145=some Tryz.f145:=by kernel_rfl
theorem Tryz.e146:Tryz.abEnv.fn 146=some Tryz.f146:=by kernel_rfl
theorem Tryz.e147:Tryz.abEnv.fn 147=some Tryz.f147:=by kernel_rfl
theorem Tryz.e148:Tryz.abEnv.fn 148=some Tryz.f148:=by kernel_rfl
theorem Tryz.a45:Tryz.abEnv.agg 45=some false:=by kernel_rfl
theorem Tryz.s45:Tryz.abEnv.sz 45=some 1:=by kernel_rfl
theorem Tryz.z45:Tryz.abEnv.zero 45=some [.nilFunc]:=by kernel_rfl
theorem Tryz.n45:av xc 45=some false:=by kernel_rfl
theorem Tryz.e157:Tryz.abEnv.fn 157=some Tryz.f157:=by kernel_rfl
theorem Tryz.e159:Tryz.abEnv.fn 159=some Tryz.f159:=by kernel_rfl
theorem Tryz.e172:Tryz.abEnv.fn 172=some Tryz.f172:=by kernel_rfl
theorem Tryz.a102:Tryz.abEnv.agg 102=some false:=by kernel_rfl
theorem Tryz.s102:Tryz.abEnv.sz 102=some 1:=by kernel_rfl
theorem Tryz.z102:Tryz.abEnv.zero 102=some [.nilFunc]:=by kernel_rfl
theorem Tryz.n102:av xc 102=some false:=by kernel_rfl
theorem Tryz.u309:Tryz.abEnv.und 309=some (.pointer 312):=by kernel_rfl
theorem Tryz.a309:Tryz.abEnv.agg 309=some false:=by kernel_rfl
theorem Tryz.s309:Tryz.abEnv.sz 309=some 1:=by kernel_rfl
theorem Tryz.z309:Tryz.abEnv.zero 309=some [.pointer none]:=by kernel_rfl
theorem Tryz.q309:eH xc 309=true:=by kernel_rfl
theorem Tryz.i309:aK xc 309=true:=by kernel_rfl
theorem Tryz.n309:av xc 309=some false:=by kernel_rfl
theorem Tryz.a312:Tryz.abEnv.agg 312=some true:=by kernel_rfl
theorem Tryz.s312:Tryz.abEnv.sz 312=some 5:=by kernel_rfl
theorem Tryz.z312:Tryz.abEnv.zero 312=some [.pointer none,.slice none 0 0,.slice none 0 0,.slice none 0 0,.map none]:=by kernel_rfl
theorem Tryz.i312:aK xc 312=true:=by kernel_rfl
theorem Tryz.n312:av xc 312=some false:=by kernel_rfl
theorem Tryz.p312:placesOf xc 312=some [(0,1),(1,3),(4,1)]:=by kernel_rfl
theorem Tryz.ff312(b o:Nat)(s:Option Nat):am xc 312 (.pointer (some ⟨b,o,s⟩)) 0=some (.pointer (some ⟨b,o+0,none⟩))/\am xc 312 (.pointer (some ⟨b,o,s⟩)) 1=some (.pointer (some ⟨b,o+1,none⟩))/\am xc 312 (.pointer (some ⟨b,o,s⟩)) 2=some (.pointer (some ⟨b,o+4,none⟩)):=⟨rfl,rfl,rfl⟩
theorem Tryz.d312(x0 x1 x2 x3 x4:Value):ar xc 312 (.agg ⟨[x0,x1,x2,x3,x4]⟩) 0=some x0/\ar xc 312 (.agg ⟨[x0,x1,x2,x3,x4]⟩) 1=some (.agg ⟨[x1,x2,x3]⟩)/\ar xc 312 (.agg ⟨[x0,x1,x2,x3,x4]⟩) 2=some x4:=⟨rfl,rfl,rfl⟩
theorem Tryz.a314:Tryz.abEnv.agg 314=some false:=by kernel_rfl
theorem Tryz.s314:Tryz.abEnv.sz 314=some 1:=by kernel_rfl
theorem Tryz.z314:Tryz.abEnv.zero 314=some [.nilFunc]:=by kernel_rfl
theorem Tryz.n314:av xc 314=some false:=by kernel_rfl
theorem Tryz.e175:Tryz.abEnv.fn 175=some Tryz.f175:=by kernel_rfl
theorem Tryz.e176:Tryz.abEnv.fn 176=some Tryz.f176:=by kernel_rfl
theorem Tryz.e182:Tryz.abEnv.fn 182=some Tryz.f182:=by kernel_rfl
theorem Tryz.e198:Tryz.abEnv.fn 198=some Tryz.f198:=by kernel_rfl
theorem Tryz.e199:Tryz.abEnv.fn 199=some Tryz.f199:=by kernel_rfl
theorem Tryz.e200:Tryz.abEnv.fn 200=some Tryz.f200:=by kernel_rfl
theorem Tryz.e201:Tryz.abEnv.fn 201=some Tryz.f201:=by kernel_rfl
theorem Tryz.e202:Tryz.abEnv.fn 202=some Tryz.f202:=by kernel_rfl
theorem Tryz.e204:Tryz.abEnv.fn 204=some Tryz.f204:=by kernel_rfl
theorem Tryz.e205:Tryz.abEnv.fn 205=some Tryz.f205:=by kernel_rfl
theorem Tryz.e206:Tryz.abEnv.fn 206=some Tryz.f206:=by kernel_rfl
theorem Tryz.e207:Tryz.abEnv.fn 207=some Tryz.f207:=by kernel_rfl
theorem Tryz.e208:Tryz.abEnv.fn 208=some Tryz.f208:=by kernel_rfl
theorem Tryz.u330:Tryz.abEnv.und 330=some (.pointer 266):=by kernel_rfl
theorem Tryz.a330:Tryz.abEnv.agg 330=some false:=by kernel_rfl
theorem Tryz.s330:Tryz.abEnv.sz 330=some 1:=by kernel_rfl
theorem Tryz.z330:Tryz.abEnv.zero 330=some [.pointer none]:=by kernel_rfl
theorem Tryz.q330:eH xc 330=true:=by kernel_rfl
theorem Tryz.i330:aK xc 330=true:=by kernel_rfl
theorem Tryz.n330:av xc 330=some false:=by kernel_rfl
theorem Tryz.e209:Tryz.abEnv.fn 209=some Tryz.f209:=by kernel_rfl
theorem Tryz.e210:Tryz.abEnv.fn 210=some Tryz.f210:=by kernel_rfl
theorem Tryz.e211:Tryz.abEnv.fn 211=some Tryz.f211:=by kernel_rfl
theorem Tryz.e212:Tryz.abEnv.fn 212=some Tryz.f212:=by kernel_rfl
theorem Tryz.e213:Tryz.abEnv.fn 213=some Tryz.f213:=by kernel_rfl
theorem Tryz.e214:Tryz.abEnv.fn 214=some Tryz.f214:=by kernel_rfl
theorem Tryz.u332:Tryz.abEnv.und 332=some (.slice 285):=by kernel_rfl
theorem Tryz.a332:Tryz.abEnv.agg 332=some false:=by kernel_rfl
theorem Tryz.s332:Tryz.abEnv.sz 332=some 1:=by kernel_rfl
theorem Tryz.z332:Tryz.abEnv.zero 332=some [.slice none 0 0]:=by kernel_rfl
theorem Tryz.q332:jj xc 332=true:=by kernel_rfl
theorem Tryz.n332:av xc 332=some false:=by kernel_rfl
theorem Tryz.e215:Tryz.abEnv.fn 215=some Tryz.f215:=by kernel_rfl
theorem Tryz.e216:Tryz.abEnv.fn 216=some Tryz.f216:=by kernel_rfl
theorem Tryz.e217:Tryz.abEnv.fn 217=some Tryz.f217:=by kernel_rfl
theorem Tryz.e218:Tryz.abEnv.fn 218=some Tryz.f218:=by kernel_rfl
theorem Tryz.e219:Tryz.abEnv.fn 219=some Tryz.f219:=by kernel_rfl
theorem Tryz.e220:Tryz.abEnv.fn 220=some Tryz.f220:=by kernel_rfl
theorem Tryz.e221:Tryz.abEnv.fn 221=some Tryz.f221:=by kernel_rfl
theorem Tryz.e222:Tryz.abEnv.fn 222=some Tryz.f222:=by kernel_rfl
theorem Tryz.e229:Tryz.abEnv.fn 229=some Tryz.f229:=by kernel_rfl
theorem Tryz.e236:Tryz.abEnv.fn 236=some Tryz.f236:=by kernel_rfl
theorem Tryz.a307:Tryz.abEnv.agg 307=some false:=by kernel_rfl
theorem Tryz.s307:Tryz.abEnv.sz 307=some 1:=by kernel_rfl
theorem Tryz.z307:Tryz.abEnv.zero 307=some [.nilFunc]:=by kernel_rfl
theorem Tryz.n307:av xc 307=some false:=by kernel_rfl
theorem Tryz.e237:Tryz.abEnv.fn 237=some Tryz.f237:=by kernel_rfl
theorem Tryz.e238:Tryz.abEnv.fn 238=some Tryz.f238:=by kernel_rfl
theorem Tryz.e239:Tryz.abEnv.fn 239=some Tryz.f239:=by kernel_rfl
theorem Tryz.e240:Tryz.abEnv.fn 240=some Tryz.f240:=by kernel_rfl
theorem Tryz.e241:Tryz.abEnv.fn 241=some Tryz.f241:=by kernel_rfl
theorem Tryz.e246:Tryz.abEnv.fn 246=some Tryz.f246:=by kernel_rfl
theorem Tryz.e247:Tryz.abEnv.fn 247=some Tryz.f247:=by kernel_rfl
theorem Tryz.e248:Tryz.abEnv.fn 248=some Tryz.f248:=by kernel_rfl
theorem Tryz.e249:Tryz.abEnv.fn 249=some Tryz.f249:=by kernel_rfl
theorem Tryz.e250:Tryz.abEnv.fn 250=some Tryz.f250:=by kernel_rfl
theorem Tryz.e252:Tryz.abEnv.fn 252=some Tryz.f252:=by kernel_rfl
theorem Tryz.e253:Tryz.abEnv.fn 253=some Tryz.f253:=by kernel_rfl
theorem Tryz.e254:Tryz.abEnv.fn 254=some Tryz.f254:=by kernel_rfl
theorem Tryz.e255:Tryz.abEnv.fn 255=some Tryz.f255:=by kernel_rfl
theorem Tryz.e256:Tryz.abEnv.fn 256=some Tryz.f256:=by kernel_rfl
theorem Tryz.a333:Tryz.abEnv.agg 333=some false:=by kernel_rfl
theorem Tryz.s333:Tryz.abEnv.sz 333=some 1:=by kernel_rfl
theorem Tryz.z333:Tryz.abEnv.zero 333=some [.nilFunc]:=by kernel_rfl
theorem Tryz.n333:av xc 333=some false:=by kernel_rfl
theorem Tryz.e257:Tryz.abEnv.fn 257=some Tryz.f257:=by kernel_rfl
theorem Tryz.e258:Tryz.abEnv.fn 258=some Tryz.f258:=by kernel_rfl
theorem Tryz.e262:Tryz.abEnv.fn 262=some Tryz.f262:=by kernel_rfl
theorem Tryz.a350:Tryz.abEnv.agg 350=some false:=by kernel_rfl
theorem Tryz.s350:Tryz.abEnv.sz 350=some 1:=by kernel_rfl
theorem Tryz.z350:Tryz.abEnv.zero 350=some [.nilFunc]:=by kernel_rfl
theorem Tryz.n350:av xc 350=some false:=by kernel_rfl
theorem Tryz.e263:Tryz.abEnv.fn 263=some Tryz.f263:=by kernel_rfl
theorem Tryz.e266:Tryz.abEnv.fn 266=some Tryz.f266:=by kernel_rfl
theorem Tryz.e267:Tryz.abEnv.fn 267=some Tryz.f267:=by kernel_rfl
theorem Tryz.e268:Tryz.abEnv.fn 268=some Tryz.f268:=by kernel_rfl
theorem Tryz.e269:Tryz.abEnv.fn 269=some Tryz.f269:=by kernel_rfl
theorem Tryz.e270:Tryz.abEnv.fn 270=some Tryz.f270:=by kernel_rfl
theorem Tryz.e271:Tryz.abEnv.fn 271=some Tryz.f271:=by kernel_rfl
theorem Tryz.e272:Tryz.abEnv.fn 272=some Tryz.f272:=by kernel_rfl
theorem Tryz.e273:Tryz.abEnv.fn 273=some Tryz.f273:=by kernel_rfl
theorem Tryz.e275:Tryz.abEnv.fn 275=some Tryz.f275:=by kernel_rfl
theorem Tryz.e276:Tryz.abEnv.fn 276=some Tryz.f276:=by kernel_rfl
end Go.Ab

end
section
namespace Go.Ab
open Go.Proofs
set_option maxRecDepth 10000
open Tryz in
def Tryz.FFt1272:=aj a1<|aj s1<|aj z1<|aj n1<|aj u2<|aj a2<|aj s2<|aj z2<|aj i2<|aj u3<|aj a3<|aj s3<|aj z3<|aj i3<|aj u4<|aj a4<|aj s4<|aj z4<|aj n4<|aj u55<|aj a55<|aj s55<|aj z55<|aj i55<|aj a285<|aj s285<|aj z285<|aj i285<|aj n285<|aj p285<|aj ff285<|aj d285<|aj u332<|aj a332<|aj s332<|aj z332<|aj q332<|aj n332<|aj a333<|aj s333<|aj z333<|n333
theorem values{h0:Hp}(ok:h0.t.Sized h0.n){v:Value}(hv:Fl v):Ret xc 256 [v] h0 fun r h'=>Gr h0 h'/\ ∃b,r=.func (.func 272) #[] #[ptrTo b]/\h0.n<=b/\h'.load b 0 1=some [v]:=by
 have S:=Si ok
 refine ac (n:=4) (rs:=[.tmp 2]) rfl Tryz.e256 rfl rfl rfl (lbt rfl) ?_
 simp only [BS,Nat.reduceLT]
 refine ag (cG (by assumption)) S ?_;clear S;intro h b S n_b
 simp only [BS,LB,ae,Nat.reduceLT,Nat.reduceEqDiff]
 exact⟨S.gr,b,rfl,n_b,S.ld m0 rfl⟩
theorem pI{h0:Hp}(ok0:h0.t.Sized h0.n){v:Value}{b:Nat}{ps:List Pl}(hb:h0.load b 0 1=some [v])(hs:aE h0 6 ib v ps)(hlen:ps.length<1000):
 Iter xc 272 [] [ptrTo b] h0 (fun c=>c=b\/au v c) (ps.map fun p=>[.agg ⟨ib p⟩]):=by
 refine oS fun lb J Z Y h F s hj=>?_
 refine enter (n:=16) (rs:=[]) rfl Tryz.e272 rfl rfl rfl (lbt rfl) ?_
 have hb':=s.load ok0 hb (.inl rfl)
 have hs':=s.sl ok0 hs (fun b h=>.inr h)
 simp only [BS,LB,Nat.reduceLT,Tryz.FFt1272,hb',hs'.lenq]
 refine aV (fun(i:Nat) ρ h=>i<=ps.length/\ ∃F,ItS h0 (fun c=>c=b\/au v c) h F/\J i h F/\ρ 0=.func (.yield lb) #[] #[]/\ρ 5=v/\ρ 6=.int .i64 ps.length/\ρ 7=.int .i64 i) (fun i=>ps.length-i) ?_ 0 _ _ ?_
 . intro i ih ρ h ⟨hi,F,s,hj,r0,r5,r6,r7⟩
   by_cases hlt:i<ps.length
   . have hs':=s.sl ok0 hs (fun b h=>.inr h)
     obtain⟨c,o,hidx,hld⟩:=hs'.ix (kd:=.i64) encP_len hlt
     have S:=Si s.ok
     have w:ao .i64 ((i:Int)+1)=((i+1:Nat):Int):=by rw [wrap64]<;>omega
     simp only [BS,LB,Nat.reduceLT,Nat.reduceEqDiff,Tryz.FFt1272,r5,r6,r7,aG,hlt,hidx,hld]
     refine ag ax S ?_;clear S;intro h bb S n_bb
     simp only [BS,LB,Nat.reduceLT,Nat.reduceEqDiff,ib]
     refine az (S.store (i:=0) rfl ?_ ?_ rfl rfl ?_ ono) ?_
     . exact(by exact Tryz.s285)
     . exact(by intro x e;cases e)
     . exact lbt rfl
     clear S;rintro h ⟨S,mo⟩;clear mo;simp only [LC,ah,lay,xe,xf,Nat.reduceAdd]at S
     simp only [BS,LB,Nat.reduceLT,Nat.reduceEqDiff,Tryz.FFt1272,r0,S.lds (b:=bb) (o:=0) (n:=6) m0 (lbt rfl)]
     refine dr Y (s.gr S.gr) (Y.gr _ _ _ _ hj S.gr) (i:=i) (by simp [hlt,ib]) ?_ ?_ ?_
     . intro h' F' a s' _ _
       simp only [BS,LB,Nat.reduceLT,Nat.reduceEqDiff,r7,w]
       exact ih (i+1) _ _ (by omega) ⟨by omega,F',s',a,by simp [aa,r0],by simp [aa,r5],by simp [aa,r6],by simp [aa]⟩
     . intro h' a _
       simp only [BS,LB,Nat.reduceLT,Nat.reduceEqDiff]
       exact eQ rfl ⟨rfl,.inr (.inl ⟨_,rfl,a⟩)⟩
     . intro v h' a
       simp only [BS]
       exact iv (c5 ⟨rfl,.inr (.inr ⟨_,rfl,a⟩)⟩)
   . simp only [BS,LB,Nat.reduceLT,r6,r7,aG,hlt]
     have:i=ps.length:=by omega
     subst this
     exact cQ (c5 ⟨rfl,_,rfl,rfl,.inl ⟨_,F,rfl,by simpa using hj⟩⟩)
 . exact⟨by omega,F,s,hj,by simp [aa,cm],by simp [aa],by simp [aa],by simp [aa]⟩
open Tryz in
def Tryz.FFt2215:=aj a1<|aj s1<|aj z1<|aj n1<|aj u2<|aj a2<|aj s2<|aj z2<|aj i2<|aj u3<|aj a3<|aj s3<|aj z3<|aj i3<|aj u4<|aj a4<|aj s4<|aj z4<|aj n4<|aj u5<|aj a5<|aj s5<|aj z5<|aj i5<|aj u55<|aj a55<|aj s55<|aj z55<|aj i55<|aj a279<|aj s279<|aj z279<|aj n279<|aj a285<|aj s285<|aj z285<|aj i285<|aj n285<|aj p285<|aj ff285<|aj d285<|aj u332<|aj a332<|aj s332<|aj z332<|aj q332<|n332
open Tryz in
def Tryz.FFt2217:=aj a1<|aj s1<|aj z1<|aj n1<|aj u2<|aj a2<|aj s2<|aj z2<|aj i2<|aj u3<|aj a3<|aj s3<|aj z3<|aj i3<|aj u4<|aj a4<|aj s4<|aj z4<|aj n4<|aj u5<|aj a5<|aj s5<|aj z5<|aj i5<|aj u25<|aj a25<|aj s25<|aj z25<|aj q25<|aj n25<|aj u26<|aj a26<|aj s26<|aj z26<|aj q26<|aj n26<|aj a28<|aj s28<|aj z28<|aj i28<|aj n28<|aj p28<|aj ff28<|aj d28<|aj a49<|aj s49<|aj z49<|aj i49<|aj n49<|aj p49<|aj ff49<|aj d49<|aj u55<|aj a55<|aj s55<|aj z55<|aj i55<|aj a279<|aj s279<|aj z279<|aj n279<|aj a285<|aj s285<|aj z285<|aj i285<|aj n285<|aj p285<|aj ff285<|aj d285<|aj u332<|aj a332<|aj s332<|aj z332<|aj q332<|n332
open Tryz in
def Tryz.FFt2257:=aj a1<|aj s1<|aj z1<|aj n1<|aj u2<|aj a2<|aj s2<|aj z2<|aj i2<|aj u3<|aj a3<|aj s3<|aj z3<|aj i3<|aj u4<|aj a4<|aj s4<|aj z4<|aj n4<|aj u5<|aj a5<|aj s5<|aj z5<|aj i5<|aj u6<|aj a6<|aj s6<|aj z6<|aj i6<|aj a7<|aj s7<|aj z7<|aj i7<|aj n7<|aj p7<|aj ff7<|aj d7<|aj a8<|aj s8<|aj z8<|aj i8<|aj n8<|aj p8<|aj ff8<|aj d8<|aj u25<|aj a25<|aj s25<|aj z25<|aj q25<|aj n25<|aj u26<|aj a26<|aj s26<|aj z26<|aj q26<|aj n26<|aj a28<|aj s28<|aj z28<|aj i28<|aj n28<|aj p28<|aj ff28<|aj d28<|aj a49<|aj s49<|aj z49<|aj i49<|aj n49<|aj p49<|aj ff49<|aj d49<|aj u55<|aj a55<|aj s55<|aj z55<|aj i55<|aj a285<|aj s285<|aj z285<|aj i285<|aj n285<|aj p285<|aj ff285<|aj d285<|aj a333<|aj s333<|aj z333<|n333
def j9(n0 n1:Nat)(v:Value)(h':Hp):Prop:= ∃gi a post,∃(ps:List Pl) (D:Nat->Prop),v=.func (.func gi) a post/\Iter xc gi a.toList post.toList h' D (ps.map fun p=>[.agg ⟨ib p⟩])/\(∀p∈ps,p.lo<=p.n/\p.n<p.hi)/\ ∀c,D c->c<n0\/n1<=c
theorem one_ok{h0:Hp}(ok:h0.t.Sized h0.n){c n lo hi:Int}(h1:lo<=n)(h2:n<hi):
 Ret xc 215 [.int .i64 c,.int .i64 n,.int .i64 lo,.int .i64 hi] h0 fun v h'=>Gr h0 h'/\j9 0 h0.n v h':=by
 have S:=Si ok
 refine ac (n:=16) (rs:=[.tmp 8]) rfl Tryz.e215 rfl rfl rfl (lbt rfl) ?_
 simp only [BS,LB,Nat.reduceLT,Nat.reduceEqDiff,Nat.reduceAdd,Tryz.FFt2215]
 refine ag (bW (by exact Tryz.u332) (by exact Tryz.e285E) (by decide) (by rfl)) S ?_;clear S;intro h b S n_b;simp only [LC,aP,bj,ah,Nat.reduceMul,Nat.reduceAdd,xj,xh,xo,xp]at S
 simp only [BS,LB,Nat.reduceLT,Nat.reduceEqDiff]
 have q:=S.fr.n
 refine step_ret (values S.ok cy) ?_;intro v h ⟨g,b2,e,n2,l2⟩;replace S:=S.call g;clear g
 subst e
 simp only [BS,LB,ae,Nat.reduceLT,Nat.reduceEqDiff]
 have hs:aE h 6 ib (.slice (some ⟨b,0,none⟩) 1 1) [⟨0,0,c,n,lo,hi⟩]:=.inr ⟨b,0,none,1,rfl,xK _,S.lds (b:=b) (o:=0) (n:=1*6) m0 (lbt rfl)⟩
 exact⟨S.gr,_,#[],#[ptrTo b2],_,_,rfl,pI S.ok l2 hs (by simp),by intro p hp;simp at hp;subst hp;exact⟨h1,h2⟩,fun c hc=>by rcases hc with rfl|hc;exact .inr (by omega);cases hc;exact .inr n_b⟩
theorem shapes_ok{h0:Hp}(ok:h0.t.Sized h0.n){γ:Gra}(hγ:Good γ){vx vy va:Value}(ga:cM h0 vx vy va γ):
 Ret xc 217 [iq γ vx vy va] h0 fun v h'=>Gr h0 h'/\j9 0 h0.n v h':=by
 have S:=Si ok
 have n1:=hγ.n1
 have n2:=hγ.n2
 have w:ao .i64 ((γ.nodes:Int)+1)=((γ.nodes+1:Nat):Int):=by rw [wrap64]<;>omega
 refine ac (n:=22) (rs:=[.tmp 2]) rfl Tryz.e217 rfl rfl rfl (lbt rfl) ?_
 simp only [BS,Nat.reduceLT,iq]
 refine ag (bR (by intro x e;cases e)) S ?_;clear S;intro h b S n_b;simp only [ah]at S
 simp only [BS,LB,Nat.reduceLT,Nat.reduceEqDiff,Nat.reduceAdd,Tryz.FFt2217,ga.X.lenq,ga.Y.lenq,w,S.ld (b:=b) (o:=0) m0 rfl,S.ld (b:=b) (o:=1) m0 rfl,S.ld (b:=b) (o:=2) m0 rfl]
 refine ag (bW (by exact Tryz.u332) (by exact Tryz.e285E) (by decide) (by rfl)) S ?_;clear S;intro h b1 S n_b1;simp only [LC,aP,bj,ah,Nat.reduceMul,Nat.reduceAdd,xj,xh,xo,xp]at S
 simp only [BS,LB,Nat.reduceLT,Nat.reduceEqDiff]
 have q:=S.fr.n
 refine step_ret (values S.ok cy) ?_;intro v h ⟨g,b2,e,n2',l2⟩;replace S:=S.call g;clear g
 subst e
 simp only [BS,LB,ae,Nat.reduceLT,Nat.reduceEqDiff]
 have hs:aE h 6 ib (.slice (some ⟨b1,0,none⟩) 2 2) [⟨0,0,6,γ.X.length,γ.nodes,(γ.nodes+1:Nat)⟩,⟨0,1,6,γ.Y.length,γ.nodes,(γ.nodes+1:Nat)⟩]:=.inr ⟨b1,0,none,2,rfl,xK _,S.lds (b:=b1) (o:=0) (n:=2*6) m0 (lbt rfl)⟩
 refine⟨S.gr,_,#[],#[ptrTo b2],_,_,rfl,pI S.ok l2 hs (by simp),?_,fun c hc=>by rcases hc with rfl|hc;exact .inr (by omega);cases hc;exact .inr n_b1⟩
 intro p hp
 have:=hγ.lX
 have:=hγ.lY
 simp at hp
 rcases hp with rfl|rfl<;>(simp only [];omega)
theorem nodes_ok{h0:Hp}(ok:h0.t.Sized h0.n){vx vy va vn:Value}:Ret xc 219 [.agg ⟨[vn,vx,vy,va]⟩] h0 fun v h'=>Gr h0 h'/\ ∃b,v=.func (.func 257) #[] #[ptrTo b]/\h0.n<=b/\Row h' b [vn,vx,vy,va] 1:=by
 have S:=Si ok
 refine ac (n:=4) (rs:=[.tmp 2]) rfl Tryz.e219 rfl rfl rfl (lbt rfl) ?_
 simp only [BS,Nat.reduceLT]
 refine ag (bR (by intro x e;cases e)) S ?_;clear S;intro h b S n_b;simp only [ah]at S
 simp only [BS,LB,ae,Nat.reduceLT,Nat.reduceEqDiff]
 exact⟨S.gr,b,rfl,n_b,S.row m0⟩
theorem arcs_ok{h0:Hp}(ok:h0.t.Sized h0.n){vx vy va vn:Value}:Ret xc 222 [.agg ⟨[vn,vx,vy,va]⟩] h0 fun v h'=>Gr h0 h'/\ ∃b,v=.func (.func 258) #[] #[ptrTo b]/\h0.n<=b/\Row h' b [vn,vx,vy,va] 1:=by
 have S:=Si ok
 refine ac (n:=4) (rs:=[.tmp 2]) rfl Tryz.e222 rfl rfl rfl (lbt rfl) ?_
 simp only [BS,Nat.reduceLT]
 refine ag (bR (by intro x e;cases e)) S ?_;clear S;intro h b S n_b;simp only [ah]at S
 simp only [BS,LB,ae,Nat.reduceLT,Nat.reduceEqDiff]
 exact⟨S.gr,b,rfl,n_b,S.row m0⟩
def plN(X Y:List Int):List Pl:=(xm X.length).flatMap fun(i:Nat)=>[⟨i,0,7,X.getD i 0,-2147483648,2147483648⟩,⟨i,1,7,Y.getD i 0,-2147483648,2147483648⟩]
theorem plN_len(X Y:List Int):(plN X Y).length=2*X.length:=by
 unfold plN
 rw [xy]
 simp [xC]
 omega
theorem plN_at(X Y:List Int){i:Nat}(hi:i<X.length):(plN X Y)[2*i]? =some ⟨i,0,7,X.getD i 0,-2147483648,2147483648⟩/\(plN X Y)[2*i+1]? =some ⟨i,1,7,Y.getD i 0,-2147483648,2147483648⟩:=by
 unfold plN
 have key: ∀(n j:Nat) (f:Nat->Pl) (k:Nat->Pl),j<n->((xm n).flatMap fun i=>[f i,k i])[2*j]? =some (f j)/\((xm n).flatMap fun i=>[f i,k i])[2*j+1]? =some (k j):=by
  intro n
  induction n with
  |zero=>intro j f k hj;omega
  | succ n ih=>
    intro j f k hj
    have hlen:((xm n).flatMap fun i=>[f i,k i]).length=2*n:=by rw [xy];simp [xC];omega
    rw [xJ,xn]
    by_cases h:j<n
    . rw [xt (by omega),xt (by omega)];exact ih j f k h
    . have:j=n:=by omega
      subst this
      rw [xq (by omega),xq (by omega),hlen]
      simp
 exact key _ _ _ _ hi
theorem wN{h0:Hp}(ok0:h0.t.Sized h0.n){vx vy va vn:Value}{b:Nat}{X Y:List Int}(hb:Row h0 b [vn,vx,vy,va] 1)(hX:aE h0 1 (encI .i64) vx X)(hY:aE h0 1 (encI .i64) vy Y)(hl:X.length=Y.length)(hlen:X.length<1000):
 Iter xc 257 [] [ptrTo b] h0 (fun c=>c=b\/au vx c\/au vy c) ((plN X Y).map fun p=>[.agg ⟨ib p⟩]):=by
 refine oS fun lb J Z Y' h F s hj=>?_
 refine enter (n:=38) (rs:=[]) rfl Tryz.e257 rfl rfl rfl (lbt rfl) ?_
 have l1:=s.load ok0 (hb.load1 (o:=1) rfl) (.inl rfl)
 simp only [BS,LB,Nat.reduceLT,Nat.reduceEqDiff,Tryz.FFt2257,l1,hX.lenq]
 refine aV (fun(i:Nat) ρ h=>i<=X.length/\ ∃F,ItS h0 (fun c=>c=b\/au vx c\/au vy c) h F/\J (2*i) h F/\ρ 0=.func (.yield lb) #[] #[]/\ρ 1=ptrTo b/\ρ 8=.int .i64 X.length/\ρ 9=.int .i64 i) (fun i=>X.length-i) ?_ 0 _ _ ?_
 . intro i ih ρ h ⟨hi,F,s,hj,r0,r1,r8,r9⟩
   by_cases hlt:i<X.length
   . have hX':=s.sl ok0 hX (fun b h=>.inr (.inl h))
     have hY':=s.sl ok0 hY (fun b h=>.inr (.inr h))
     have l1:=s.load ok0 (hb.load1 (o:=1) rfl) (.inl rfl)
     have l2:=s.load ok0 (hb.load1 (o:=2) rfl) (.inl rfl)
     obtain⟨c,o,hidx,hld⟩:=hX'.ix (kd:=.i64) (cu _) hlt
     obtain⟨c2,o2,hidx2,hld2⟩:=hY'.ix (kd:=.i64) (cu _) (i:=i) (by omega)
     have S:=Si s.ok
     have w:ao .i64 ((i:Int)+1)=((i+1:Nat):Int):=by rw [wrap64]<;>omega
     simp only [BS,LB,Nat.reduceLT,Nat.reduceEqDiff,r8,r9,aG,hlt]
     refine aA (aI rfl) (q:=1024) (ps:=[]) (by kernel_rfl) ?_
     simp only [BS,LB,cls,Nat.reduceLT,Nat.reduceEqDiff,Nat.reduceAdd,Nat.reducePow,Nat.reduceDiv,Nat.reduceMod,Nat.reduceLeDiff,Tryz.FFt2257,r1,l1,l2,hidx,hidx2,hld,hld2,encI]
     refine dT (bW (by exact Tryz.u25) (by exact Tryz.e2E) (by decide) (by rfl)) S ?_;clear S;intro h b22 S n_b22 e_b22;simp only [LC,aP,bj,ah,Nat.reduceMul,Nat.reduceAdd,xj,xh,xo,xp]at S
     simp only [BS,LB,cls,Nat.reduceLT,Nat.reduceEqDiff,Nat.reduceAdd,Nat.reducePow,Nat.reduceDiv,Nat.reduceMod,Nat.reduceLeDiff,xk,Tryz.FFt2257]
     have w1:ao .i64 1=1:=rfl
     have w2:ao .i64 2=2:=rfl
     have hp:=plN_at X Y hlt
     rw [cq]
     simp only [BS,LB,Nat.reduceLT,Nat.reduceEqDiff,Nat.reduceAdd,Int.reduceToNat,Int.reduceLE,Int.reduceLT,xk,Tryz.FFt2257,r0,S.ld (b:=b22) (o:=0) m0 rfl,S.ld (b:=b22) (o:=1) m0 rfl]
     refine dr Y' (s.gr S.gr) (Y'.gr _ _ _ _ hj S.gr) (i:=2*i) (by rw [xu,hp.1];simp [ib,xi,hlt]) ?_ ?_ ?_
     . intro h2 F2 a s2 mo2 _
       have nF:b22∉F:=fun hm=>by have:=s.lt _ hm;omega
       have R:Row h2 b22 _ 1:=(S.row m0).of_get (mo2.get _ ((S.row m0).lt S.ok) nF)
       have R1:=R.load1 (o:=1) rfl
       have nF2:True:=trivial
       simp only [BS,LB,Nat.reduceLT,Nat.reduceEqDiff,Int.reduceAdd,w1]
       rw [cq]
       simp only [BS,LB,Nat.reduceLT,Nat.reduceEqDiff,Nat.reduceAdd,Int.reduceToNat,Int.reduceLE,Int.reduceLT,xk,Tryz.FFt2257,r0,R1]
       refine dr Y' s2 a (i:=2*i+1) (by rw [xu,hp.2];simp [ib,xi,show i<Y.length by omega]) ?_ ?_ ?_
       . intro h3 F3 a s3 _ _
         simp only [BS,LB,Nat.reduceLT,Nat.reduceEqDiff,Int.reduceAdd,w2]
         rw [cq]
         simp only [BS,LB,Nat.reduceLT,Nat.reduceEqDiff,Int.reduceLT,r9,w]
         exact ih (i+1) _ _ (by omega) ⟨by omega,F3,s3,a,by simp [aa,r0],by simp [aa,r1],by simp [aa,r8],by simp [aa]⟩
       . intro h' a _
         simp only [BS,LB,Nat.reduceLT,Nat.reduceEqDiff]
         exact eQ rfl ⟨rfl,.inr (.inl ⟨_,rfl,a⟩)⟩
       . intro v h' a
         simp only [BS]
         exact iv (c5 ⟨rfl,.inr (.inr ⟨_,rfl,a⟩)⟩)
     . intro h' a _
       simp only [BS,LB,Nat.reduceLT,Nat.reduceEqDiff]
       exact eQ rfl ⟨rfl,.inr (.inl ⟨_,rfl,a⟩)⟩
     . intro v h' a
       simp only [BS]
       exact iv (c5 ⟨rfl,.inr (.inr ⟨_,rfl,a⟩)⟩)
   . simp only [BS,LB,Nat.reduceLT,r8,r9,aG,hlt]
     have:i=X.length:=by omega
     subst this
     exact cQ (c5 ⟨rfl,_,rfl,rfl,.inl ⟨_,F,rfl,by simpa [plN_len]using hj⟩⟩)
 . exact⟨by omega,F,s,hj,by simp [aa,cm],by simp [aa,cm,ab],by simp [aa],by simp [aa]⟩
open Tryz in
def Tryz.FFt3258:=aj a1<|aj s1<|aj z1<|aj n1<|aj u2<|aj a2<|aj s2<|aj z2<|aj i2<|aj u3<|aj a3<|aj s3<|aj z3<|aj i3<|aj u4<|aj a4<|aj s4<|aj z4<|aj n4<|aj u5<|aj a5<|aj s5<|aj z5<|aj i5<|aj u6<|aj a6<|aj s6<|aj z6<|aj i6<|aj a7<|aj s7<|aj z7<|aj i7<|aj n7<|aj p7<|aj ff7<|aj d7<|aj a8<|aj s8<|aj z8<|aj i8<|aj n8<|aj p8<|aj ff8<|aj d8<|aj u9<|aj a9<|aj s9<|aj z9<|aj n9<|aj u25<|aj a25<|aj s25<|aj z25<|aj q25<|aj n25<|aj u26<|aj a26<|aj s26<|aj z26<|aj q26<|aj n26<|aj a28<|aj s28<|aj z28<|aj i28<|aj n28<|aj p28<|aj ff28<|aj d28<|aj a49<|aj s49<|aj z49<|aj i49<|aj n49<|aj p49<|aj ff49<|aj d49<|aj u55<|aj a55<|aj s55<|aj z55<|aj i55<|aj a285<|aj s285<|aj z285<|aj i285<|aj n285<|aj p285<|aj ff285<|aj d285<|aj u332<|aj a332<|aj s332<|aj z332<|aj q332<|aj n332<|aj a333<|aj s333<|aj z333<|n333
def plA(n:Nat)(A:List Arc):List Pl:=(xm A.length).flatMap fun(i:Nat)=>[⟨i,0,9,(A.getD i default).s,0,n⟩,⟨i,1,9,(A.getD i default).t,0,n⟩,⟨i,2,10,(A.getD i default).w,0,2147483648⟩]
theorem flat3_at{α:Type}(f k l:Nat->α): ∀(n j:Nat),j<n->((xm n).flatMap fun i=>[f i,k i,l i])[3*j]? =some (f j)/\((xm n).flatMap fun i=>[f i,k i,l i])[3*j+1]? =some (k j)/\((xm n).flatMap fun i=>[f i,k i,l i])[3*j+2]? =some (l j):=by
 intro n
 induction n with
 |zero=>intro j hj;omega
 | succ n ih=>
   intro j hj
   have hlen:((xm n).flatMap fun i=>[f i,k i,l i]).length=3*n:=by rw [xy];simp [xC];omega
   rw [xJ,xn]
   by_cases h:j<n
   . rw [xt (by omega),xt (by omega),xt (by omega)];exact ih j h
   . have:j=n:=by omega
     subst this
     rw [xq (by omega),xq (by omega),xq (by omega),hlen]
     simp
theorem plA_len(n:Nat)(A:List Arc):(plA n A).length=3*A.length:=by
 unfold plA
 rw [xy]
 simp [xC]
 omega
theorem arcs_iter {h0:Hp} (ok0:h0.t.Sized h0.n) {vx vy va:Value} {b n:Nat} {A:List Arc} (hb:Row h0 b [.int .i64 n,vx,vy,va] 1) (hA:aE h0 3 cl va A) (hlen:A.length<1000):
 Iter xc 258 [] [ptrTo b] h0 (fun c=>c=b\/au va c) ((plA n A).map fun p=>[.agg ⟨ib p⟩]):=by
 refine oS fun lb J Z Y' h F s hj=>?_
 refine enter (n:=44) (rs:=[]) rfl Tryz.e258 rfl rfl rfl (lbt rfl) ?_
 have l0:=s.load ok0 (hb.load1 (o:=0) rfl) (.inl rfl)
 have l3:=s.load ok0 (hb.load1 (o:=3) rfl) (.inl rfl)
 simp only [BS,LB,Nat.reduceLT,Nat.reduceEqDiff,Tryz.FFt3258,l0,l3,hA.lenq]
 refine aV (fun(i:Nat) ρ h=>i<=A.length/\ ∃F,ItS h0 (fun c=>c=b\/au va c) h F/\J (3*i) h F/\ρ 0=.func (.yield lb) #[] #[]/\ρ 3=.int .i64 n/\ρ 11=va/\ρ 12=.int .i64 A.length/\ρ 13=.int .i64 i) (fun i=>A.length-i) ?_ 0 _ _ ?_
 . intro i ih ρ h ⟨hi,F,s,hj,r0,r3,r11,r12,r13⟩
   by_cases hlt:i<A.length
   . have hA':=s.sl ok0 hA (fun b h=>.inr h)
     obtain⟨c,o,hidx,hld⟩:=hA'.ix (kd:=.i64) et hlt
     have S:=Si s.ok
     have w:ao .i64 ((i:Int)+1)=((i+1:Nat):Int):=by rw [wrap64]<;>omega
     have w1:ao .i64 1=1:=rfl
     have w2:ao .i64 2=2:=rfl
     have w3:ao .i64 3=3:=rfl
     have hp:=flat3_at (fun(i:Nat)=>(⟨i,0,9,(A.getD i default).s,0,n⟩:Pl)) (fun(i:Nat)=>⟨i,1,9,(A.getD i default).t,0,n⟩) (fun(i:Nat)=>⟨i,2,10,(A.getD i default).w,0,2147483648⟩) A.length i hlt
     have hd:A.getD i default=A[i]:=by simp [xi,hlt]
     simp only [BS,LB,Nat.reduceLT,Nat.reduceEqDiff,Tryz.FFt3258,r11,r12,r13,aG,hlt,hidx,hld]
     refine ag ax S ?_;clear S;intro h b5 S n_b5
     simp only [BS,LB,Nat.reduceLT,Nat.reduceEqDiff,cl]
     refine az (S.store (i:=0) rfl ?_ ?_ rfl rfl ?_ ono) ?_
     . exact(by exact Tryz.s49)
     . exact(by intro x e;cases e)
     . exact lbt rfl
     clear S;rintro h ⟨S,mo⟩;clear mo;simp only [LC,ah,lay,xe,xf,Nat.reduceAdd]at S
     simp only [BS,LB,Nat.reduceLT,Nat.reduceEqDiff,Nat.reduceAdd,Tryz.FFt3258,r3,S.ld (b:=b5) (o:=0) m0 rfl,S.ld (b:=b5) (o:=1) m0 rfl,S.ld (b:=b5) (o:=2) m0 rfl]
     refine ag (bW (by exact Tryz.u332) (by exact Tryz.e285E) (by decide) (by rfl)) S ?_;clear S;intro h bl S n_bl;simp only [LC,aP,bj,ah,Nat.reduceMul,Nat.reduceAdd,xj,xh,xo,xp]at S
     simp only [BS,LB,Nat.reduceLT,Nat.reduceEqDiff,xk,Tryz.FFt3258]
     have nF:bl∉F:=fun hm=>by have:=s.lt _ hm;omega
     have R:Row h bl _ 1:=S.row m0
     have hbl:=R.lt S.ok
     rw [cq]
     simp only [BS,LB,Nat.reduceLT,Nat.reduceEqDiff,Int.reduceToNat,Int.reduceLE,Int.reduceLT,xk,Tryz.FFt3258,S.lds (b:=bl) (o:=0) (n:=6) m0 (lbt rfl)]
     refine ag ax S ?_;clear S;intro h b7 S n_b7
     simp only [BS,LB,Nat.reduceLT,Nat.reduceEqDiff,xL,xF,xM]
     refine az (S.store (i:=0) rfl ?_ ?_ rfl rfl ?_ ono) ?_
     . exact(by exact Tryz.s285)
     . exact(by intro x e;cases e)
     . exact lbt rfl
     clear S;rintro h ⟨S,mo⟩;clear mo;simp only [LC,ah,lay,xe,xf,Nat.reduceAdd]at S
     simp only [BS,LB,Nat.reduceLT,Nat.reduceEqDiff,Tryz.FFt3258,r0,S.lds (b:=b7) (o:=0) (n:=6) m0 (lbt rfl)]
     have R:Row h bl _ 1:=S.row m1
     refine dr Y' (s.gr S.gr) (Y'.gr _ _ _ _ hj S.gr) (i:=3*i) (by rw [xu,show(plA n A)[3*i]? =_ from hp.1,hd];simp [ib]) ?_ ?_ ?_
     . intro h2 F2 a s2 mo2 hF2
       have R0:=R
       replace R:Row h2 bl _ 1:=R.of_get (mo2.get _ (R.lt S.ok) nF)
       have nF2:bl∉F2:=fun hm=>by
        rcases hF2 _ hm with hm|hm
        . exact nF hm
        . have:=R0.lt S.ok;omega
       have S:=Si s2.ok
       simp only [BS,LB,Nat.reduceLT,Nat.reduceEqDiff,Int.reduceAdd,w1]
       rw [cq]
       simp only [BS,LB,Nat.reduceLT,Nat.reduceEqDiff,Int.reduceToNat,Int.reduceLE,Int.reduceLT,xk,Nat.reduceMul,Tryz.FFt3258,R.load (o:=6) (n:=6) (lbt rfl)]
       refine ag ax S ?_;clear S;intro h b8 S n_b8
       simp only [BS,LB,Nat.reduceLT,Nat.reduceEqDiff,xN,xL,xF,xM]
       refine az (S.store (i:=0) rfl ?_ ?_ rfl rfl ?_ ono) ?_
       . exact(by exact Tryz.s285)
       . exact(by intro x e;cases e)
       . exact lbt rfl
       clear S;rintro h ⟨S,mo⟩;clear mo;simp only [LC,ah,lay,xe,xf,Nat.reduceAdd]at S
       simp only [BS,LB,Nat.reduceLT,Nat.reduceEqDiff,Tryz.FFt3258,r0,S.lds (b:=b8) (o:=0) (n:=6) m0 (lbt rfl)]
       replace R:=R.gr S.gr
       refine dr Y' (s2.gr S.gr) (Y'.gr _ _ _ _ a S.gr) (i:=3*i+1) (by rw [xu,show(plA n A)[3*i+1]? =_ from hp.2.1,hd];simp [ib]) ?_ ?_ ?_
       . intro h3 F3 a s3 mo3 hF3
         replace R:Row h3 bl _ 1:=R.of_get (mo3.get _ (R.lt S.ok) nF2)
         have S:=Si s3.ok
         simp only [BS,LB,Nat.reduceLT,Nat.reduceEqDiff,Int.reduceAdd,w2]
         rw [cq]
         simp only [BS,LB,Nat.reduceLT,Nat.reduceEqDiff,Int.reduceToNat,Int.reduceLE,Int.reduceLT,xk,Nat.reduceMul,Tryz.FFt3258,R.load (o:=12) (n:=6) (lbt rfl)]
         refine ag ax S ?_;clear S;intro h b9 S n_b9
         simp only [BS,LB,Nat.reduceLT,Nat.reduceEqDiff,xN,xL,xF,xM]
         refine az (S.store (i:=0) rfl ?_ ?_ rfl rfl ?_ ono) ?_
         . exact(by exact Tryz.s285)
         . exact(by intro x e;cases e)
         . exact lbt rfl
         clear S;rintro h ⟨S,mo⟩;clear mo;simp only [LC,ah,lay,xe,xf,Nat.reduceAdd]at S
         simp only [BS,LB,Nat.reduceLT,Nat.reduceEqDiff,Tryz.FFt3258,r0,S.lds (b:=b9) (o:=0) (n:=6) m0 (lbt rfl)]
         refine dr Y' (s3.gr S.gr) (Y'.gr _ _ _ _ a S.gr) (i:=3*i+2) (by rw [xu,show(plA n A)[3*i+2]? =_ from hp.2.2,hd];simp [ib]) ?_ ?_ ?_
         . intro h4 F4 a s4 mo4 hF4
           simp only [BS,LB,Nat.reduceLT,Nat.reduceEqDiff,Int.reduceAdd,w3]
           rw [cq]
           simp only [BS,LB,Nat.reduceLT,Nat.reduceEqDiff,Int.reduceLT,r13,w]
           exact ih (i+1) _ _ (by omega) ⟨by omega,F4,s4,a,by simp [aa,r0],by simp [aa,r3],by simp [aa,r11],by simp [aa,r12],by simp [aa]⟩
         . intro h' a _
           simp only [BS,LB,Nat.reduceLT,Nat.reduceEqDiff]
           exact eQ rfl ⟨rfl,.inr (.inl ⟨_,rfl,a⟩)⟩
         . intro v h' a
           simp only [BS]
           exact iv (c5 ⟨rfl,.inr (.inr ⟨_,rfl,a⟩)⟩)
       . intro h' a _
         simp only [BS,LB,Nat.reduceLT,Nat.reduceEqDiff]
         exact eQ rfl ⟨rfl,.inr (.inl ⟨_,rfl,a⟩)⟩
       . intro v h' a
         simp only [BS]
         exact iv (c5 ⟨rfl,.inr (.inr ⟨_,rfl,a⟩)⟩)
     . intro h' a _
       simp only [BS,LB,Nat.reduceLT,Nat.reduceEqDiff]
       exact eQ rfl ⟨rfl,.inr (.inl ⟨_,rfl,a⟩)⟩
     . intro v h' a
       simp only [BS]
       exact iv (c5 ⟨rfl,.inr (.inr ⟨_,rfl,a⟩)⟩)
   . simp only [BS,LB,Nat.reduceLT,r12,r13,aG,hlt]
     have:i=A.length:=by omega
     subst this
     exact cQ (c5 ⟨rfl,_,rfl,rfl,.inl ⟨_,F,rfl,by simpa [plA_len]using hj⟩⟩)
 . exact⟨by omega,F,s,hj,by simp [aa,cm],by simp [aa],by simp [aa],by simp [aa],by simp [aa]⟩
open Tryz in
def Tryz.FFt4214:=aj a1<|aj s1<|aj z1<|aj n1<|aj u2<|aj a2<|aj s2<|aj z2<|aj i2<|aj u3<|aj a3<|aj s3<|aj z3<|aj i3<|aj u25<|aj a25<|aj s25<|aj z25<|aj q25<|aj n25<|aj u26<|aj a26<|aj s26<|aj z26<|aj q26<|aj n26<|aj a28<|aj s28<|aj z28<|aj i28<|aj n28<|aj p28<|aj ff28<|aj d28<|aj a49<|aj s49<|aj z49<|aj i49<|aj n49<|aj p49<|aj ff49<|aj d49<|aj u55<|aj a55<|aj s55<|aj z55<|aj i55<|aj a279<|aj s279<|aj z279<|n279
open Tryz in
def Tryz.FFt4216:=aj a1<|aj s1<|aj z1<|aj n1<|aj u2<|aj a2<|aj s2<|aj z2<|aj i2<|aj u3<|aj a3<|aj s3<|aj z3<|aj i3<|aj u25<|aj a25<|aj s25<|aj z25<|aj q25<|aj n25<|aj u26<|aj a26<|aj s26<|aj z26<|aj q26<|aj n26<|aj a28<|aj s28<|aj z28<|aj i28<|aj n28<|aj p28<|aj ff28<|aj d28<|aj a49<|aj s49<|aj z49<|aj i49<|aj n49<|aj p49<|aj ff49<|aj d49<|aj a279<|aj s279<|aj z279<|n279
open Tryz in
def Tryz.FFt4220:=aj a1<|aj s1<|aj z1<|aj n1<|aj u2<|aj a2<|aj s2<|aj z2<|aj i2<|aj u3<|aj a3<|aj s3<|aj z3<|aj i3<|aj u25<|aj a25<|aj s25<|aj z25<|aj q25<|aj n25<|aj u26<|aj a26<|aj s26<|aj z26<|aj q26<|aj n26<|aj a28<|aj s28<|aj z28<|aj i28<|aj n28<|aj p28<|aj ff28<|aj d28<|aj a49<|aj s49<|aj z49<|aj i49<|aj n49<|aj p49<|aj ff49<|aj d49<|aj u55<|aj a55<|aj s55<|aj z55<|aj i55<|aj a279<|aj s279<|aj z279<|n279
open Tryz in
def Tryz.FFt4218:=aj a1<|aj s1<|aj z1<|aj n1<|aj u2<|aj a2<|aj s2<|aj z2<|aj i2<|aj u3<|aj a3<|aj s3<|aj z3<|aj i3<|aj u25<|aj a25<|aj s25<|aj z25<|aj q25<|aj n25<|aj u26<|aj a26<|aj s26<|aj z26<|aj q26<|aj n26<|aj a28<|aj s28<|aj z28<|aj i28<|aj n28<|aj p28<|aj ff28<|aj d28<|aj a49<|aj s49<|aj z49<|aj i49<|aj n49<|aj p49<|aj ff49<|aj d49<|aj a279<|aj s279<|aj z279<|n279
open Tryz in
def Tryz.FFt4221:=aj a1<|aj s1<|aj z1<|aj n1<|aj u2<|aj a2<|aj s2<|aj z2<|aj i2<|aj u3<|aj a3<|aj s3<|aj z3<|aj i3<|aj u25<|aj a25<|aj s25<|aj z25<|aj q25<|aj n25<|aj u26<|aj a26<|aj s26<|aj z26<|aj q26<|aj n26<|aj a28<|aj s28<|aj z28<|aj i28<|aj n28<|aj p28<|aj ff28<|aj d28<|aj a49<|aj s49<|aj z49<|aj i49<|aj n49<|aj p49<|aj ff49<|aj d49<|aj a279<|aj s279<|aj z279<|n279
theorem look1_ok{h0:Hp}(ok:h0.t.Sized h0.n){γ:Gra}(hγ:Good γ){vx vy va:Value}{b:Nat}(hb:Row h0 b [.int .i64 γ.nodes,vx,vy,va] 1):Ret xc 214 [ptrTo b] h0 fun v h'=>Gr h0 h'/\j9 0 h0.n v h':=by
 have S:=Si ok
 have n1:=hγ.n1
 have n2:=hγ.n2
 refine ac (n:=5) (rs:=[.tmp 1]) rfl Tryz.e214 rfl rfl rfl (lbt rfl) ?_
 simp only [BS,LB,Nat.reduceLT,Nat.reduceEqDiff,Tryz.FFt4214,hb.load1 (o:=0) rfl]
 refine step_ret (one_ok S.ok (by omega) (by omega)) ?_;intro v h ⟨g,t⟩;replace S:=S.call g;clear g
 simp only [BS,LB,ae,Nat.reduceLT,Nat.reduceEqDiff]
 exact⟨S.gr,t⟩
theorem look2_ok{h0:Hp}(ok:h0.t.Sized h0.n){γ:Gra}(hγ:Good γ){vx vy va:Value}(ga:cM h0 vx vy va γ){b:Nat}(hb:Row h0 b [.int .i64 γ.nodes,vx,vy,va] 1):Ret xc 216 [ptrTo b] h0 fun v h'=>Gr h0 h'/\j9 0 h0.n v h':=by
 have S:=Si ok
 refine ac (n:=4) (rs:=[.tmp 1]) rfl Tryz.e216 rfl rfl rfl (lbt rfl) ?_
 simp only [BS,LB,Nat.reduceLT,Nat.reduceEqDiff,Tryz.FFt4216,hb.load (o:=0) (n:=4) (lbt rfl)]
 refine step_ret (shapes_ok S.ok hγ ga) ?_;intro v h ⟨g,t⟩;replace S:=S.call g;clear g
 simp only [BS,LB,ae,Nat.reduceLT,Nat.reduceEqDiff]
 exact⟨S.gr,t⟩
theorem look4_ok{h0:Hp}(ok:h0.t.Sized h0.n){γ:Gra}(hγ:Good γ){vx vy va:Value}(ga:cM h0 vx vy va γ){b:Nat}(hb:Row h0 b [.int .i64 γ.nodes,vx,vy,va] 1):Ret xc 220 [ptrTo b] h0 fun v h'=>Gr h0 h'/\j9 0 h0.n v h':=by
 have S:=Si ok
 have n2:=hγ.many
 refine ac (n:=6) (rs:=[.tmp 1]) rfl Tryz.e220 rfl rfl rfl (lbt rfl) ?_
 simp only [BS,LB,Nat.reduceLT,Nat.reduceEqDiff,Tryz.FFt4220,hb.load1 (o:=3) rfl,ga.A.lenq]
 refine step_ret (one_ok S.ok (by omega) (by omega)) ?_;intro v h ⟨g,t⟩;replace S:=S.call g;clear g
 simp only [BS,LB,ae,Nat.reduceLT,Nat.reduceEqDiff]
 exact⟨S.gr,t⟩
theorem look3_ok{h0:Hp}(ok:h0.t.Sized h0.n){γ:Gra}(hγ:Good γ){vx vy va:Value}(ga:cM h0 vx vy va γ){b n0:Nat}(hX: ∀c,au vx c->c<n0)(hY: ∀c,au vy c->c<n0)(hb:Row h0 b [.int .i64 γ.nodes,vx,vy,va] 1):Ret xc 218 [ptrTo b] h0 fun v h'=>Gr h0 h'/\j9 n0 h0.n v h':=by
 have S:=Si ok
 have n2:=hγ.n2
 have lX:=hγ.lX
 have lY:=hγ.lY
 refine ac (n:=4) (rs:=[.tmp 1]) rfl Tryz.e218 rfl rfl rfl (lbt rfl) ?_
 simp only [BS,LB,Nat.reduceLT,Nat.reduceEqDiff,Tryz.FFt4218,hb.load (o:=0) (n:=4) (lbt rfl)]
 refine step_ret (nodes_ok S.ok) ?_;intro v h ⟨g,b2,e,q2,R⟩;replace S:=S.call g;clear g
 subst e
 simp only [BS,LB,ae,Nat.reduceLT,Nat.reduceEqDiff]
 refine⟨S.gr,_,#[],#[ptrTo b2],_,_,rfl,wN S.ok R (ga.X.gr S.gr) (ga.Y.gr S.gr) (by omega) (by omega),fun p hp=>?_,fun c hc=>?_⟩
 . unfold plN at hp
   simp only [List.mem_flatMap,List.mem_range,List.mem_cons,List.not_mem_nil,or_false]at hp
   obtain⟨i,hi,rfl|rfl⟩:=hp
   . have:=hγ.cX γ.X[i] (xG hi)
     simp only [xi,xz hi,xH];omega
   . have hi':i<γ.Y.length:=by omega
     have:=hγ.cY γ.Y[i] (xG hi')
     simp only [xi,xz hi',xH];omega
 . rcases hc with rfl|hc|hc
   . exact .inr q2
   . exact .inl (hX c hc)
   . exact .inl (hY c hc)
theorem look5_ok{h0:Hp}(ok:h0.t.Sized h0.n){γ:Gra}(hγ:Good γ){vx vy va:Value}(ga:cM h0 vx vy va γ){b n0:Nat}(hA: ∀c,au va c->c<n0)(hb:Row h0 b [.int .i64 γ.nodes,vx,vy,va] 1):Ret xc 221 [ptrTo b] h0 fun v h'=>Gr h0 h'/\j9 n0 h0.n v h':=by
 have S:=Si ok
 have n2:=hγ.many
 refine ac (n:=4) (rs:=[.tmp 1]) rfl Tryz.e221 rfl rfl rfl (lbt rfl) ?_
 simp only [BS,LB,Nat.reduceLT,Nat.reduceEqDiff,Tryz.FFt4221,hb.load (o:=0) (n:=4) (lbt rfl)]
 refine step_ret (arcs_ok S.ok) ?_;intro v h ⟨g,b2,e,q2,R⟩;replace S:=S.call g;clear g
 subst e
 simp only [BS,LB,ae,Nat.reduceLT,Nat.reduceEqDiff]
 refine⟨S.gr,_,#[],#[ptrTo b2],_,_,rfl,arcs_iter S.ok R (ga.A.gr S.gr) (by omega),fun p hp=>?_,fun c hc=>?_⟩
 . unfold plA at hp
   simp only [List.mem_flatMap,List.mem_range,List.mem_cons,List.not_mem_nil,or_false]at hp
   obtain⟨i,hi,h⟩:=hp
   have:=hγ.arcs γ.arcs[i] (xG hi)
   simp only [xi,xz hi,xH]at h
   rcases h with rfl|rfl|rfl<;>(simp only [];omega)
 . rcases hc with rfl|hc
   . exact .inr q2
   . exact .inl (hA c hc)
open Tryz in
def Tryz.FFt5142:=aj a1<|aj s1<|aj z1<|aj n1<|aj u2<|aj a2<|aj s2<|aj z2<|aj i2<|aj u3<|aj a3<|aj s3<|aj z3<|aj i3<|aj u4<|aj a4<|aj s4<|aj z4<|aj n4<|aj u5<|aj a5<|aj s5<|aj z5<|aj i5<|aj u6<|aj a6<|aj s6<|aj z6<|aj i6<|aj a7<|aj s7<|aj z7<|aj i7<|aj n7<|aj p7<|aj ff7<|aj d7<|aj a8<|aj s8<|aj z8<|aj i8<|aj n8<|aj p8<|aj ff8<|aj d8<|aj u17<|aj a17<|aj s17<|aj z17<|aj q17<|aj i17<|aj n17<|aj a19<|aj s19<|aj z19<|aj i19<|aj n19<|aj p19<|aj ff19<|aj d19<|aj a20<|aj s20<|aj z20<|aj q20<|aj n20<|aj u25<|aj a25<|aj s25<|aj z25<|aj q25<|aj n25<|aj u26<|aj a26<|aj s26<|aj z26<|aj q26<|aj n26<|aj a28<|aj s28<|aj z28<|aj i28<|aj n28<|aj p28<|aj ff28<|aj d28<|aj a49<|aj s49<|aj z49<|aj i49<|aj n49<|aj p49<|aj ff49<|aj d49<|aj u55<|aj a55<|aj s55<|aj z55<|aj i55<|aj a137<|aj s137<|aj z137<|aj i137<|aj n137<|aj p137<|aj ff137<|aj d137<|aj u139<|aj a139<|aj s139<|aj z139<|aj q139<|aj i139<|aj n139<|aj a213<|aj s213<|aj z213<|aj i213<|aj n213<|aj p213<|aj ff213<|aj d213<|aj a279<|aj s279<|aj z279<|aj n279<|aj a281<|aj s281<|aj z281<|aj n281<|aj u283<|aj a283<|aj s283<|aj z283<|aj q283<|aj n283<|aj a285<|aj s285<|aj z285<|aj i285<|aj n285<|aj p285<|aj ff285<|aj d285<|aj a367<|aj s367<|aj z367<|aj i367<|aj n367<|aj p367<|aj ff367<|d367
theorem look_ok {h0:Hp} (ok:h0.t.Sized h0.n) {γ:Gra} (hγ:Good γ) {vx vy va:Value} (ga:cM h0 vx vy va γ):Ret xc 142 [iq γ vx vy va] h0 fun v h'=>Gr h0 h':=by
 have S:=Si ok
 refine ac (n:=44) (rs:=[]) rfl Tryz.e142 rfl rfl rfl (lbt rfl) ?_
 simp only [BS,Nat.reduceLT,iq]
 refine ag (bR (by intro x e;cases e)) S ?_;clear S;intro h b S n_b;simp only [ah]at S
 simp only [BS,LB,Nat.reduceLT,Nat.reduceEqDiff]
 refine ag (bW (by exact Tryz.u283) (by exact Tryz.e281E) (by decide) (by rfl)) S ?_;clear S;intro h bs S n_bs;simp only [LC,aP,bj,ah,Nat.reduceMul,Nat.reduceAdd,xj,xh,xo,xp]at S
 simp only [BS,LB,Nat.reduceLT,Nat.reduceEqDiff,xk,Tryz.FFt5142]
 have hq: ∀i,i<5-> ∃g a c,[Value.func (.func 214) #[] #[.pointer (some ⟨b,0,none⟩)],.func (.func 216) #[] #[.pointer (some ⟨b,0,none⟩)],.func (.func 218) #[] #[.pointer (some ⟨b,0,none⟩)],.func (.func 220) #[] #[.pointer (some ⟨b,0,none⟩)],.func (.func 221) #[] #[.pointer (some ⟨b,0,none⟩)]][i]? =some (.func (.func g) a c)/\
  ∀h',Gr h h'->Ret xc g (a.toList++c.toList) h' fun v h''=>Gr h' h''/\j9 h0.n h'.n v h'':=by
  intro i hi
  have hr:=S.row (b:=b) m1
  have ga':=ga.gr S.gr
  have wk: ∀h' v h'',Gr h' h''/\j9 0 h'.n v h''->Gr h' h''/\j9 h0.n h'.n v h'':=by
   rintro h' v h'' ⟨a,gi,a1,a2,ps,D,b1,b2,b3,b4⟩
   exact⟨a,gi,a1,a2,ps,D,b1,b2,b3,fun c hc=>(b4 c hc).elim (fun h=>by omega) .inr⟩
  match i,hi with
  |0,_=>exact⟨_,_,_,rfl,fun h' g=>ns (look1_ok g.ok hγ (hr.gr g)) (wk h')⟩
  |1,_=>exact⟨_,_,_,rfl,fun h' g=>ns (look2_ok g.ok hγ (ga'.gr g) (hr.gr g)) (wk h')⟩
  |2,_=>exact⟨_,_,_,rfl,fun h' g=>look3_ok g.ok hγ (ga'.gr g) (fun c hc=>ga.X.lt ok hc) (fun c hc=>ga.Y.lt ok hc) (hr.gr g)⟩
  |3,_=>exact⟨_,_,_,rfl,fun h' g=>ns (look4_ok g.ok hγ (ga'.gr g) (hr.gr g)) (wk h')⟩
  |4,_=>exact⟨_,_,_,rfl,fun h' g=>look5_ok g.ok hγ (ga'.gr g) (fun c hc=>ga.A.lt ok hc) (hr.gr g)⟩
 have Rs:=S.row (b:=bs) m0
 have g0:=S.gr
 have ok1:=S.ok
 clear S ga ok
 revert hq Rs
 generalize [Value.func (.func 214) #[] #[.pointer (some ⟨b,0,none⟩)],.func (.func 216) #[] #[.pointer (some ⟨b,0,none⟩)],.func (.func 218) #[] #[.pointer (some ⟨b,0,none⟩)],.func (.func 220) #[] #[.pointer (some ⟨b,0,none⟩)],.func (.func 221) #[] #[.pointer (some ⟨b,0,none⟩)]]=fs
 intro hq Rs
 rename Hp=>h1
 have lt1:=Rs.lt ok1
 have ge1:=g0.n
 have S:=Si ok1
 refine me (fun(i:Nat) ρ d h'=>i<=5/\ ∃dbs:List Nat,d=dbs.map mj/\St NoM h1 h' (cD dbs) []/\ρ 10=.slice (some ⟨bs,0,none⟩) 5 5/\ρ 11=.int .i64 5/\ρ 12=.int .i64 i) (fun i=>5-i) ?_ 0 _ _ _ ?_
 . clear S
   intro i ih ρ d h ⟨hi,dbs,hd,S,r10,r11,r12⟩
   have w:ao .i64 ((i:Int)+1)=((i+1:Nat):Int):=by rw [wrap64]<;>omega
   by_cases hlt:i<5
   . obtain⟨g,a,c,hfi,hr⟩:=hq i hlt
     have Rl:=(Rs.gr S.gr).load1 hfi
     have hlt':(i:Int)<5:=by omega
     simp only [BS,LB,Nat.reduceLT,Nat.reduceEqDiff,Tryz.FFt5142,r10,r11,r12,hlt',hlt,Rl]
     refine ag ax S ?_;clear S;intro h b2 S n_b2
     simp only [BS,LB,Nat.reduceLT,Nat.reduceEqDiff]
     refine az (aB S (i:=0) rfl ?_ ?_ ?_ ono) ?_
     . exact(by simp only [Tryz.FFt5142])
     . exact(by exact bO)
     . exact xg (lbt rfl)
     clear S;rintro h ⟨S,mo⟩;clear mo;simp only [LC,ah,lay,xe,xf,Nat.reduceAdd]at S
     simp only [BS,LB,Nat.reduceLT,Nat.reduceEqDiff]
     replace S:=S.drop1
     have kl: ∀b∈keys (cD dbs) [],b<h.n:=fun b hb=>S.key_lt hb
     refine step_ret (hr _ S.gr) ?_;intro v h ⟨g,gi,a2,post,ps,D,e,it,hps,hD⟩;replace S:=S.call g;clear g
     subst e
     simp only [BS]
     refine iC S (g:=gi) (a:=a2) (b:=post) (by simp [cg,aa]) rfl rfl ?_
     intro h2 db lb S' hdb hlb g2
     obtain⟨X,hX,S'⟩: ∃X:eF,X=_/\St NoM h1 h2 ((lb,.loop X)::(db,.dfr)::cD dbs) []:=⟨_,rfl,S'⟩
     have hJ:Yld xc lb (fun _ h' F=>St NoM h1 h' ((lb,.loop X)::(db,.dfr)::cD dbs) []/\F=keys ((lb,.loop X)::(db,.dfr)::cD dbs) []) (fun _ _=>False) (ps.map fun p=>[.agg ⟨ib p⟩]):=by
      refine⟨?_,?_,fun _ _ h=>h.elim,?_⟩
      . rintro i h F ⟨S,rfl⟩;exact⟨S.ok,fun b hb=>S.key_lt hb⟩
      . rintro i h F h' ⟨S,rfl⟩ g;exact⟨S.call g,rfl⟩
      . rintro i x h F hx ⟨S,rfl⟩
        obtain⟨p,hp,rfl⟩: ∃p∈ps,x=[.agg ⟨ib p⟩]:=by
         rw [xu,Option.map_eq_some_iff]at hx
         obtain⟨p,h1,h2⟩:=hx
         exact⟨p,xE h1,h2.symm⟩
        obtain⟨p1,p2⟩:=hps p hp
        have p1': ¬p.n<p.lo:=by omega
        have p2': ¬p.hi<=p.n:=by omega
        subst hX
        refine iB (S.get m0) (by rw [Tryz.e142];rfl) rfl ?_
        have S0:=S
        replace S:=S.base
        simp only [BS,Tryz.FFt5142]
        refine ag ax S ?_;clear S;intro h b4 S n_b4
        simp only [BS,LB,Nat.reduceLT,Nat.reduceEqDiff,ib]
        refine az (S.store (i:=0) rfl ?_ ?_ rfl rfl ?_ ono) ?_
        . exact(by exact Tryz.s285)
        . exact(by intro x e;cases e)
        . exact lbt rfl
        clear S;rintro h ⟨S,mo⟩;clear mo;simp only [LC,ah,lay,xe,xf,Nat.reduceAdd]at S
        simp only [BS]
        refine gJ S (i:=1) rfl rfl rfl rfl rfl ?_
        clear S;intro h S
        simp only [BS,LB,Nat.reduceLT,Nat.reduceEqDiff,Tryz.FFt5142,p1',p2',S.ld (b:=b4) (o:=3) m0 rfl,S.ld (b:=b4) (o:=4) m0 rfl,S.ld (b:=b4) (o:=5) m0 rfl]
        refine ee S (i:=1) rfl ?_
        clear S;intro h S
        exact .inl ⟨rfl,_,⟨S0.rebase S.drop1,rfl⟩,S.fr,S.drop1.key_new⟩
     refine fu (tg it hJ (h:=h2) (F:=keys ((lb,.loop _)::(db,.dfr)::cD dbs) []) g2.fr (fun b hb hlt=>?_) ⟨S',rfl⟩) fun o rc h' y=>ir y ?_
     . intro hd
       have hS:=S'.key_own hb
       rcases hD b hd with hh|hh
       . rcases hS with hS|hS
         . omega
         . exact hS
       . rcases List.mem_cons.1 hb with rfl|hb
         . omega
         . rcases List.mem_cons.1 hb with rfl|hb
           . omega
           . have:=kl b hb;omega
     . rintro F ⟨S,rfl⟩
       subst hX
       refine⟨_,S.get m0,Nat.zero_ne_one,?_⟩
       replace S:=S.dead
       show Run _ _ _ _ _ _ _ _
       simp only [BS,LB,Nat.reduceLT,Nat.reduceEqDiff,r12,w]
       exact ih (i+1) _ _ _ (by omega) ⟨by omega,db::dbs,by rw [hd];rfl,S,by simp [aa,r10],by simp [aa,r11],by simp [aa]⟩
   . have hlt': ¬(i:Int)<5:=by omega
     simp only [BS,LB,Nat.reduceLT,r11,r12,hlt']
     subst hd
     refine cQ (jn dbs h (L:=[]) (by rw [List.append_nil];exact S) fun h' S'=>⟨rfl,_,rfl,g0.trans S'.gr⟩)
 . exact⟨by omega,[],rfl,S,by simp [aa],by simp [aa],by simp [aa]⟩
end Go.Ab
end
section
namespace Go.Ab
section
variable{M:Nat->Prop}{h0 h:Hp}{E:Env}{L:List (Nat×Ob)}{G:List GL}
def WrK{α:Type}(h:Hp)(k:Nat)(enc:α->List Value)(w:Value)(l:List α):Prop:=l≠ []-> ∃b,w=.slice (some ⟨b,0,some k⟩) l.length l.length/\Row h b (l.flatMap enc) 1
theorem WrK.mo{α:Type}{M:Nat->Prop}{h h':Hp}{k:Nat}{enc:α->List Value}{w:Value}{l:List α}(r:WrK h k enc w l)(g:Mo M h h')(hm: ∀b,au w b-> ¬M b):WrK h' k enc w l:=
 fun hl=>by obtain⟨b,e,k⟩:=r hl;exact⟨b,e,g.has (o:=.row _ 1) k (hm b (by rw [e];rfl))⟩
theorem St.cloneW{α:Type}{enc:α->List Value}{ys:List α}(S:St M h0 h L G){t tx e:TypeId}{by_ k md:Nat}{zs:List Value}{b:Nat}{x:Value}(hu:E.und t=some (.slice e))(he:dJ E e by_ k zs)(hb:0<by_)
 (hx:av E tx=some false) (hs:aE h k enc x ys) (hen: ∀x,(enc x).length=k) (hk:0<k) (hsz:(ys.length*k)*(by_+1)<=70368744177664) {ts:List TypeId}
 (hl:Row h b [] md):
 ∃h' v',cU E h (t::tx::ts) (.slice (some ⟨b,0,none⟩) 0 0) x=some (h',v')/\St M h0 h' L G/\Gr h h'/\aE h' k enc v' ys/\(∀c,au v' c->c=b\/h.n<=c)/\WrK h' k enc v' ys:=by
 obtain⟨h',v',h1,h2,h3,h4,h5⟩:=S.cloneSl (enc:=enc) (xs:=[]) hu he hb hx hs hen hk (by simpa using hsz) (ts:=ts) (b:=b) (md:=md) (by simpa using hl)
 refine⟨h',v',h1,h2,h3,by simpa using h4,h5,fun hne=>?_⟩
 obtain⟨h'',v'',k1,k2⟩:=S.clone hu he hb hx hs.src (aS hen ys).symm (n:=0) (by simp) hk (by rw [aS hen];simpa using hsz) (ts:=ts) hl
 have h1':cU E h (t::tx::ts) (.slice (some ⟨b,0,none⟩) 0 0) x=some (h',v'):=h1
 rw [h1']at k1
 cases k1
 rcases k2 with⟨hm,_⟩|⟨b',e1,T⟩
 . exact absurd (List.length_eq_zero_iff.1 hm) hne
 . refine⟨b',by rw [e1,xh],?_⟩
   have:=T.row (b:=b') m0
   simpa using this
end
end Go.Ab

end
section
namespace Go.Ab
open Go.Proofs
set_option maxRecDepth 10000
open Tryz in
def Tryz.FFt6141:=aj a1<|aj s1<|aj z1<|aj n1<|aj u2<|aj a2<|aj s2<|aj z2<|aj i2<|aj u3<|aj a3<|aj s3<|aj z3<|aj i3<|aj u4<|aj a4<|aj s4<|aj z4<|aj n4<|aj u5<|aj a5<|aj s5<|aj z5<|aj i5<|aj a20<|aj s20<|aj z20<|aj q20<|aj n20<|aj a76<|aj s76<|aj z76<|aj q76<|aj n76<|aj a137<|aj s137<|aj z137<|aj i137<|aj n137<|aj p137<|aj ff137<|aj d137<|aj u139<|aj a139<|aj s139<|aj z139<|aj q139<|aj i139<|aj n139<|aj a213<|aj s213<|aj z213<|aj i213<|aj n213<|aj p213<|aj ff213<|d213
open Tryz in
def Tryz.FFt677:=aj a1<|aj s1<|aj z1<|aj n1<|aj u2<|aj a2<|aj s2<|aj z2<|aj i2<|aj u3<|aj a3<|aj s3<|aj z3<|aj i3<|aj u25<|aj a25<|aj s25<|aj z25<|aj q25<|aj n25<|aj u26<|aj a26<|aj s26<|aj z26<|aj q26<|aj n26<|aj a28<|aj s28<|aj z28<|aj i28<|aj n28<|aj p28<|aj ff28<|aj d28<|aj a49<|aj s49<|aj z49<|aj i49<|aj n49<|aj p49<|aj ff49<|aj d49<|aj a76<|aj s76<|aj z76<|aj q76<|n76
open Tryz in
def Tryz.FFt6147:=aj a1<|aj s1<|aj z1<|aj n1<|aj u2<|aj a2<|aj s2<|aj z2<|aj i2<|aj u3<|aj a3<|aj s3<|aj z3<|aj i3<|aj u4<|aj a4<|aj s4<|aj z4<|aj n4<|aj u25<|aj a25<|aj s25<|aj z25<|aj q25<|n25
open Tryz in
def Tryz.FFt6148:=aj a1<|aj s1<|aj z1<|aj n1<|aj u2<|aj a2<|aj s2<|aj z2<|aj i2<|aj u3<|aj a3<|aj s3<|aj z3<|aj i3<|aj u4<|aj a4<|aj s4<|aj z4<|aj n4<|aj u26<|aj a26<|aj s26<|aj z26<|aj q26<|aj n26<|aj a49<|aj s49<|aj z49<|aj i49<|aj n49<|aj p49<|aj ff49<|d49
theorem check1_ok{h0:Hp}(ok:h0.t.Sized h0.n){b:Nat}:eG xc 141 [ptrTo b] none h0 fun o rc h'=>(∃v,o=.ret v)/\rc=none/\Gr h0 h':=by
 have S:=Si ok
 refine enter (n:=17) (rs:=[]) rfl Tryz.e141 rfl rfl rfl (lbt rfl) ?_
 simp only [BS,LB,Nat.reduceLT,Nat.reduceEqDiff,Tryz.FFt6141]
 exact cQ (c5 ⟨rfl,_,rfl,⟨_,rfl⟩,rfl,S.gr⟩)
theorem check_ok{h0:Hp}(ok:h0.t.Sized h0.n){γ:Gra}(hγ:Good γ){vx vy va:Value}(ga:cM h0 vx vy va γ):bA xc 77 [iq γ vx vy va] h0 .nilIface:=by
 have S:=Si ok
 refine ac (n:=6) (rs:=[.cell 2 76]) rfl Tryz.e77 rfl rfl rfl (lbt rfl) ?_
 simp only [BS,Nat.reduceLT,iq]
 refine ag (bR (by intro x e;cases e)) S ?_;clear S;intro h b S n_b;simp only [ah]at S
 simp only [BS,Tryz.FFt677]
 refine ag ax S ?_;clear S;intro h b2 S n_b2
 simp only [BS,LB,Nat.reduceLT,Nat.reduceEqDiff,Tryz.FFt677,S.lds (b:=b) (o:=0) (n:=4) m1 (lbt rfl)]
 refine step_ret (look_ok S.ok hγ (ga.gr S.gr)) ?_;intro v h g;replace S:=S.call g;clear g
 simp only [BS,LB,Nat.reduceLT,Nat.reduceEqDiff]
 refine az (aB S (i:=0) rfl ?_ ?_ ?_ ono) ?_
 . exact(by simp only [Tryz.FFt677])
 . exact(by exact fl_nili)
 . exact xg (lbt rfl)
 clear S;rintro h ⟨S,mo⟩;clear mo;simp only [LC,ah,lay,xe,xf,Nat.reduceAdd]at S
 simp only [BS]
 refine fF (un_fn (fu (check1_ok S.ok) fun o rc h' ⟨a,b,g⟩=>⟨a,b,c5 ⟨rfl,?_⟩⟩))
 replace S:=S.call g
 have l:=S.ld (b:=b2) (o:=0) m0 rfl
 exact⟨_,pb (by decide) (by simp only [aU,ab,Nat.reduceEqDiff,reduceIte];exact rf Tryz.a76 l),rfl,S.gr⟩
theorem qI{h0:Hp}(ok:h0.t.Sized h0.n){v:Value}{xs:List Int}(hs:aE h0 1 (encI .i64) v xs)(hl:xs.length<1000000):Ret xc 147 [v] h0 fun r h'=>Gr h0 h'/\aE h' 1 (encI .i64) r xs/\ ∀c,au r c->h0.n<=c:=by
 have S:=Si ok
 rcases hs with⟨rfl,rfl⟩|⟨b,o,s,c,rfl,h2,h3⟩
 . refine ac (n:=8) (rs:=[.tmp 2]) rfl Tryz.e147 rfl rfl rfl (lbt rfl) ?_
   simp only [BS,LB,ae,Nat.reduceLT,Nat.reduceEqDiff,Tryz.FFt6147]
   exact⟨S.gr,.inl ⟨rfl,rfl⟩,fun c hc=>hc.elim⟩
 . refine ac (n:=8) (rs:=[.tmp 2]) rfl Tryz.e147 rfl rfl rfl (lbt rfl) ?_
   simp only [BS,LB,Nat.reduceLT,Nat.reduceEqDiff,Tryz.FFt6147]
   refine ag (bW (by exact Tryz.u25) (by exact Tryz.e2E) (by decide) (by rfl)) S ?_;clear S;intro h bb S n_bb;simp only [LC,aP,bj,ah,Nat.reduceMul,Nat.reduceAdd,xj,xh,xo,xp]at S
   simp only [BS,LB,Nat.reduceLT,Nat.reduceEqDiff]
   refine e6 (S.cloneSl (enc:=encI .i64) (xs:=[]) Tryz.u25 Tryz.e2E (by decide) Tryz.n25 (.inr ⟨b,o,s,c,rfl,h2,S.old h3 (fun h=>h)⟩) (fun x=>rfl) (by decide) (by simp only [List.length_nil,xh];omega) (S.row m0)) ?_
   rintro h' v ⟨S',g,sl,hc⟩
   simp only [BS,LB,ae,Nat.reduceLT,Nat.reduceEqDiff]
   refine⟨S'.gr,by simpa using sl,fun c h=>(hc c h).elim (fun e=>by omega) (fun e=>xA S.fr.n e)⟩
theorem uJ{h0:Hp}(ok:h0.t.Sized h0.n){v:Value}{xs:List Arc}(hs:aE h0 3 (cl) v xs)(hl:xs.length<1000000):Ret xc 148 [v] h0 fun r h'=>Gr h0 h'/\aE h' 3 (cl) r xs/\(∀c,au r c->h0.n<=c)/\WrK h' 3 cl r xs:=by
 have S:=Si ok
 rcases hs with⟨rfl,rfl⟩|⟨b,o,s,c,rfl,h2,h3⟩
 . refine ac (n:=8) (rs:=[.tmp 2]) rfl Tryz.e148 rfl rfl rfl (lbt rfl) ?_
   simp only [BS,LB,ae,Nat.reduceLT,Nat.reduceEqDiff,Tryz.FFt6148]
   exact⟨S.gr,.inl ⟨rfl,rfl⟩,fun c hc=>hc.elim,fun h=>absurd rfl h⟩
 . refine ac (n:=8) (rs:=[.tmp 2]) rfl Tryz.e148 rfl rfl rfl (lbt rfl) ?_
   simp only [BS,LB,Nat.reduceLT,Nat.reduceEqDiff,Tryz.FFt6148]
   refine ag (bW (by exact Tryz.u26) (by exact Tryz.e49E) (by decide) (by rfl)) S ?_;clear S;intro h bb S n_bb;simp only [LC,aP,bj,ah,Nat.reduceMul,Nat.reduceAdd,xj,xh,xo,xp]at S
   simp only [BS,LB,Nat.reduceLT,Nat.reduceEqDiff]
   refine e6 (S.cloneW (enc:=cl) (ys:=xs) Tryz.u26 Tryz.e49E (by decide) Tryz.n26 (.inr ⟨b,o,s,c,rfl,h2,S.old h3 (fun h=>h)⟩) (fun x=>rfl) (by decide) (by omega) (S.row m0)) ?_
   rintro h' v ⟨S',g,sl,hc,w⟩
   simp only [BS,LB,ae,Nat.reduceLT,Nat.reduceEqDiff]
   exact⟨S'.gr,sl,fun c h=>(hc c h).elim (fun e=>by omega) (fun e=>xA S.fr.n e),w⟩
open Tryz in
def Tryz.FFt775:=aj a1<|aj s1<|aj z1<|aj n1<|aj u2<|aj a2<|aj s2<|aj z2<|aj i2<|aj u3<|aj a3<|aj s3<|aj z3<|aj i3<|aj u4<|aj a4<|aj s4<|aj z4<|aj n4<|aj u5<|aj a5<|aj s5<|aj z5<|aj i5<|aj u22<|aj a22<|aj s22<|aj z22<|aj q22<|aj n22<|aj u71<|aj a71<|aj s71<|aj z71<|aj q71<|aj i71<|aj n71<|aj a73<|aj s73<|aj z73<|aj i73<|aj n73<|aj p73<|aj ff73<|d73
structure DrAt(h:Hp)(bd:Nat)(vB:Value)(xs:List Int)(a:Nat):Prop where
 sl:aE h 1 (encI .u8) vB xs
 ne: ¬au vB bd
 few:xs.length<1000000
 at_:a<100000
theorem eU{h0:Hp}(ok:h0.t.Sized h0.n){bd a n:Nat}{vB:Value}{xs:List Int}(hr:Row h0 bd [vB,.int .i64 a] 1)(hd:DrAt h0 bd vB xs a)(hn:1<=n)(hn2:n<1000):
 Ret xc 75 [ptrTo bd,.int .i64 n] h0 fun v h'=>Mo (· =bd) h0 h'/\ ∃r a':Nat,v=.int .i64 r/\r<n/\a'<=a+1/\Row h' bd [vB,.int .i64 a'] 1:=by
 have S:=St.init1 ok (o:=.row [vB,.int .i64 a] 1) hr
 obtain⟨hs,hne,hx,ha⟩:=hd
 have fl:=hs.fl
 have w1:ao .i64 ((a:Int)+1)=((a+1:Nat):Int):=by rw [wrap64]<;>omega
 have w2:ao .i64 (((a+1:Nat):Int)-1)=(a:Int):=by rw [wrap64]<;>omega
 have c1: ¬(n:Int)<1:=by omega
 by_cases h0':xs.length=0
 . have c0:(xs.length:Int)=0:=by omega
   refine ac (n:=55) (rs:=[.tmp 4]) rfl Tryz.e75 rfl rfl rfl (lbt rfl) ?_
   simp only [BS,LB,ae,Nat.reduceLT,Nat.reduceEqDiff,Tryz.FFt775,hs.lenq,c0,S.ld (b:=bd) (o:=0) m0 rfl]
   exact⟨S.fr,0,a,rfl,by omega,by omega,S.row m0⟩
 . have c0: ¬(xs.length:Int)=0:=by omega
   have hmod:a%xs.length<xs.length:=Nat.mod_lt _ (by omega)
   have tm:(a:Int).tmod (xs.length:Int)=((a%xs.length:Nat):Int):=by rw [xx (by omega)];exact(Int.natCast_emod _ _).symm
   refine ac (n:=55) (rs:=[.tmp 4]) rfl Tryz.e75 rfl rfl rfl (lbt rfl) ?_
   simp only [BS,LB,Nat.reduceLT,Nat.reduceEqDiff,Tryz.FFt775,hs.lenq,c0,c1,w1,S.ld (b:=bd) (o:=0) m0 rfl,S.ld (b:=bd) (o:=1) m0 rfl]
   refine az (aB S (i:=0) rfl ?_ ?_ ?_ ono) ?_
   . exact(by simp only [Tryz.FFt775])
   . exact(by exact bO)
   . exact xg (lbt rfl)
   clear S;rintro h ⟨S,mo⟩;clear mo;simp only [LC,ah,lay,xe,xf,Nat.reduceAdd]at S
   have hs':aE h 1 (encI .u8) vB xs:=hs.mo S.fr (fun b hb e=>hne (e▸hb))
   obtain⟨c,o,hidx,hld⟩:=hs'.ix (kd:=.i64) (cu _) hmod
   have cz:(xs.length:Int)≠0:=c0
   have cn:(n:Int)≠0:=by omega
   simp only [BS]
   refine aA (aI rfl) (q:=0) (ps:=[]) (by kernel_rfl) ?_
   simp only [BS,LB,iV,bQ,iW,cls,ae,Nat.reduceLT,Nat.reduceEqDiff,Nat.reduceAdd,Nat.reducePow,Nat.reduceDiv,Nat.reduceMod,Nat.reduceLeDiff,Tryz.FFt775,hs'.lenq,w2,m9 cz,kh cz,m9 cn,tm,hidx,hld,encI,S.ld (b:=bd) (o:=0) m0 rfl,S.ld (b:=bd) (o:=1) m0 rfl]
   have key: ∀z:Int,∃r:Nat,(ao .i64 (ao .u8 z)).tmod (n:Int)=(r:Int)/\r<n:=by
    intro z
    have h8:=wrap8 z
    rw [wrap64 (by omega) (by omega),xx (by omega)]
    have h1:=Int.emod_nonneg (ao .u8 z) cn
    have h2:=Int.emod_lt_of_pos (ao .u8 z) (show(0:Int)<n by omega)
    exact⟨(ao .u8 z%n).toNat,by omega,by omega⟩
   obtain⟨r,e,hr⟩:=key _
   rw [e]
   exact⟨S.fr,r,a+1,rfl,hr,xK _,S.row m0⟩
theorem DrAt.mo{h h':Hp}{bd:Nat}{vB:Value}{xs:List Int}{a a':Nat}(d:DrAt h bd vB xs a)(f:Mo (· =bd) h h')(ha:a'<100000):DrAt h' bd vB xs a':=
 ⟨d.sl.mo f (fun b hb e=>d.ne (e▸hb)),d.ne,d.few,ha⟩
theorem DrAt.gr{h h':Hp}{bd:Nat}{vB:Value}{xs:List Int}{a:Nat}(d:DrAt h bd vB xs a)(g:Gr h h'):DrAt h' bd vB xs a:=⟨d.sl.gr g,d.ne,d.few,d.at_⟩
theorem so{h0:Hp}(ok:h0.t.Sized h0.n){bd a:Nat}{vB:Value}{xs:List Int}(hr:Row h0 bd [vB,.int .i64 a] 1)(hd:DrAt h0 bd vB xs a)(ha:a+2<100000):
 Ret xc 76 [ptrTo bd] h0 fun v h'=>Mo (· =bd) h0 h'/\ ∃r a':Nat,v=.int .i64 r/\r<=2147483647/\a'<=a+2/\Row h' bd [vB,.int .i64 a'] 1:=by
 have S:=St.init1 ok (o:=.row [vB,.int .i64 a] 1) hr
 refine ac (n:=24) (rs:=[.tmp 2]) rfl Tryz.e76 rfl rfl rfl (lbt rfl) ?_
 simp only [BS,LB,Nat.reduceLT,Nat.reduceEqDiff]
 refine step_ret (eU (n:=12) S.ok (S.row m0) hd (by omega) (by omega)) ?_
 rintro v h ⟨f,r,a1,rfl,hr1,ha1,R1⟩
 replace S:=S.call1 (i:=0) rfl f (o':=.row _ _) R1
 have hd1:DrAt h bd vB xs a1:=hd.mo f (by omega)
 simp only [LC]at S
 by_cases c1:(r:Int)<3
 . simp only [BS,LB,ae,Nat.reduceLT,Nat.reduceEqDiff,c1]
   exact⟨S.fr,0,a1,rfl,by omega,by omega,S.row m0⟩
 . by_cases c2:(r:Int)<10
   . simp only [BS,LB,Nat.reduceLT,Nat.reduceEqDiff,c1,c2]
     refine step_ret (eU (n:=9) S.ok (S.row m0) hd1 (by omega) (by omega)) ?_
     rintro v h ⟨f,r2,a2,rfl,hr2,ha2,R2⟩
     replace S:=S.call1 (i:=0) rfl f (o':=.row _ _) R2
     simp only [LC]at S
     have w1:ao .i64 (1+(r2:Int))=((1+r2:Nat):Int):=by rw [wrap64]<;>omega
     simp only [BS,LB,ae,Nat.reduceLT,Nat.reduceEqDiff,w1]
     exact⟨S.fr,1+r2,a2,rfl,by omega,by omega,S.row m0⟩
   . by_cases c3:(r:Int)<11
     . simp only [BS,LB,Nat.reduceLT,Nat.reduceEqDiff,c1,c2,c3]
       refine step_ret (eU (n:=20) S.ok (S.row m0) hd1 (by omega) (by omega)) ?_
       rintro v h ⟨f,r2,a2,rfl,hr2,ha2,R2⟩
       replace S:=S.call1 (i:=0) rfl f (o':=.row _ _) R2
       simp only [LC]at S
       have w1:ao .i64 (100*(r2:Int))=((100*r2:Nat):Int):=by rw [wrap64]<;>omega
       simp only [BS,LB,ae,Nat.reduceLT,Nat.reduceEqDiff,w1]
       exact⟨S.fr,100*r2,a2,rfl,by omega,by omega,S.row m0⟩
     . simp only [BS,LB,Nat.reduceLT,Nat.reduceEqDiff,c1,c2,c3]
       refine step_ret (eU (n:=2) S.ok (S.row m0) hd1 (by omega) (by omega)) ?_
       rintro v h ⟨f,r2,a2,rfl,hr2,ha2,R2⟩
       replace S:=S.call1 (i:=0) rfl f (o':=.row _ _) R2
       simp only [LC]at S
       have w1:ao .i64 (2147483647-(r2:Int))=((2147483647-r2:Nat):Int):=by rw [wrap64]<;>omega
       simp only [BS,LB,ae,Nat.reduceLT,Nat.reduceEqDiff,w1]
       exact⟨S.fr,2147483647-r2,a2,rfl,by omega,by omega,S.row m0⟩
open Tryz in
def Tryz.FFt831:=aj a1<|aj s1<|aj z1<|aj n1<|aj u2<|aj a2<|aj s2<|aj z2<|aj i2<|aj u3<|aj a3<|aj s3<|aj z3<|aj i3<|aj u4<|aj a4<|aj s4<|aj z4<|aj n4<|aj u5<|aj a5<|aj s5<|aj z5<|aj i5<|aj u6<|aj a6<|aj s6<|aj z6<|aj i6<|aj a7<|aj s7<|aj z7<|aj i7<|aj n7<|aj p7<|aj ff7<|aj d7<|aj a8<|aj s8<|aj z8<|aj i8<|aj n8<|aj p8<|aj ff8<|aj d8<|aj u9<|aj a9<|aj s9<|aj z9<|aj n9<|aj u10<|aj a10<|aj s10<|aj z10<|aj n10<|aj u11<|aj a11<|aj s11<|aj z11<|aj n11<|aj u12<|aj a12<|aj s12<|aj z12<|aj i12<|aj a13<|aj s13<|aj z13<|aj i13<|aj n13<|aj p13<|aj ff13<|aj d13<|aj a14<|aj s14<|aj z14<|aj i14<|aj n14<|aj p14<|aj ff14<|aj d14<|aj u15<|aj a15<|aj s15<|aj z15<|aj q15<|aj i15<|aj n15<|aj u16<|aj a16<|aj s16<|aj z16<|aj q16<|aj i16<|aj n16<|aj u17<|aj a17<|aj s17<|aj z17<|aj q17<|aj i17<|aj n17<|aj a18<|aj s18<|aj z18<|aj i18<|aj n18<|aj p18<|aj ff18<|aj d18<|aj a19<|aj s19<|aj z19<|aj i19<|aj n19<|aj p19<|aj ff19<|aj d19<|aj a20<|aj s20<|aj z20<|aj q20<|aj n20<|aj u21<|aj a21<|aj s21<|aj z21<|aj i21<|aj u22<|aj a22<|aj s22<|aj z22<|aj q22<|aj n22<|aj a23<|aj s23<|aj z23<|aj i23<|aj n23<|aj p23<|aj ff23<|aj d23<|aj u25<|aj a25<|aj s25<|aj z25<|aj q25<|aj n25<|aj u26<|aj a26<|aj s26<|aj z26<|aj q26<|aj n26<|aj a28<|aj s28<|aj z28<|aj i28<|aj n28<|aj p28<|aj ff28<|aj d28<|aj a49<|aj s49<|aj z49<|aj i49<|aj n49<|aj p49<|aj ff49<|aj d49<|aj u71<|aj a71<|aj s71<|aj z71<|aj q71<|aj i71<|aj n71<|aj a73<|aj s73<|aj z73<|aj i73<|aj n73<|aj p73<|aj ff73<|aj d73<|aj u121<|aj a121<|aj s121<|aj z121<|aj q121<|aj i121<|aj n121<|aj u294<|aj a294<|aj s294<|aj z294<|aj i294<|aj u324<|aj a324<|aj s324<|aj z324<|aj i324<|aj a357<|aj s357<|aj z357<|aj i357<|aj n357<|aj p357<|aj ff357<|aj d357<|aj u358<|aj a358<|aj s358<|aj z358<|aj n358<|aj a360<|aj s360<|aj z360<|aj i360<|aj n360<|aj u362<|aj a362<|aj s362<|aj z362<|aj i362<|aj a363<|aj s363<|aj z363<|aj n363<|aj u364<|aj a364<|aj s364<|aj z364<|aj i364<|aj u365<|aj a365<|aj s365<|aj z365<|aj i365<|aj a367<|aj s367<|aj z367<|aj i367<|aj n367<|aj p367<|aj ff367<|d367
def ints(l:List Int):List Value:=l.flatMap (encI .i64)
theorem cN(l:List Int):(ints l).length=l.length:=by unfold ints;rw [aS (k:=1) (fun _=>rfl)];omega
theorem lN(l m:List Int):ints (l++m)=ints l++ints m:=by unfold ints;rw [xn]
theorem raw_ok {h0:Hp} (ok:h0.t.Sized h0.n) {bd:Nat} {vB:Value} {xs:List Int} (hr:Row h0 bd [vB,.int .i64 ((0:Nat):Int)] 1) (hd:DrAt h0 bd vB xs 0):
 Ret xc 31 [ptrTo bd] h0 fun v h'=>Mo (· =bd) h0 h'/\ ∃γ vx vy va,v=iq γ vx vy va/\Good γ/\cM h' vx vy va γ/\ ∀c,(au vx c\/au vy c\/au va c)->h0.n<=c:=by
 have S:=St.init1 ok (o:=.row [vB,.int .i64 ((0:Nat):Int)] 1) hr
 have lt0:=hr.lt ok
 refine ac (n:=117) (rs:=[.cell 2 28]) rfl Tryz.e31 rfl rfl rfl (lbt rfl) ?_
 simp only [BS,Tryz.FFt831]
 refine ag ax S ?_;clear S;intro h b2 S n_b2
 simp only [BS,LB,Nat.reduceLT,Nat.reduceEqDiff]
 refine step_ret (eU (n:=12) (a:=0) S.ok (S.row m1) (hd.mo S.fr (by omega)) (by omega) (by omega)) ?_
 rintro v h ⟨f,r0,a0,rfl,hr0,ha0,R⟩
 replace S:=S.call1 (i:=1) rfl f (o':=.row _ _) R
 simp only [LC]at S
 have w1:ao .i64 (1+(r0:Int))=((1+r0:Nat):Int):=by rw [wrap64]<;>omega
 simp only [BS,LB,Nat.reduceLT,Nat.reduceEqDiff,Nat.reduceAdd,Tryz.FFt831,w1]
 refine ag ax S ?_;clear S;intro h b3 S n_b3
 simp only [BS,LB,Nat.reduceLT,Nat.reduceEqDiff]
 refine az (S.store (i:=0) rfl ?_ ?_ rfl rfl ?_ ono) ?_
 . exact(by exact Tryz.s7)
 . exact(by intro x e;cases e)
 . exact lbt rfl
 clear S;rintro h ⟨S,mo⟩;clear mo;simp only [LC,ah,lay,xe,xf,Nat.reduceAdd]at S
 simp only [BS]
 replace S:=((S.nilG (k:=3)).nilG (k:=1)).nilG (k:=1)
 generalize hN:1+r0=N at S
 refine aV (fun(i:Nat) ρ h=>i<=N/\ ∃(a:Nat) (vX vY:Value) (X Y:List Int),a<=1+2*i/\X.length=i/\Y.length=i/\(∀x∈X,-2147483648<=x/\x<=2147483647)/\(∀x∈Y,-2147483648<=x/\x<=2147483647)/\
  St (· =bd) h0 h [(b3,.row [.int .i64 N,vX,vY,.slice none 0 0] 1),(b2,.row [.int .i64 0,.slice none 0 0,.slice none 0 0,.slice none 0 0] 1),(bd,.row [vB,.int .i64 a] 1)] [(vX,1,ints X),(vY,1,ints Y),(.slice none 0 0,3,[])]/\
  ρ 0=ptrTo bd/\ρ 2=ptrTo b2/\ρ 3=ptrTo b3/\ρ 4=.int .i64 i) (fun i=>N-i) ?_ 0 _ _ ?_
 . clear S
   intro i ih ρ h ⟨hi,a,vX,vY,X,Y,ha,lX,lY,cX,cY,S,r0,r2,r3,r4⟩
   by_cases hlt:i<N
   . simp only [BS,LB,Nat.reduceLT,Nat.reduceEqDiff,Tryz.FFt831,r3,r4,aG,hlt,S.ld (b:=b3) (o:=0) m0 rfl]
     refine aA (aI rfl) (q:=32) (ps:=[(1,3)]) (by kernel_rfl) ?_
     simp only [BS,LB,cls,Nat.reduceLT,Nat.reduceEqDiff,Nat.reduceAdd,Nat.reducePow,Nat.reduceDiv,Nat.reduceMod,Nat.reduceLeDiff,Tryz.FFt831,r0,r3,S.ld (b:=b3) (o:=1) m0 rfl]
     refine dc (eU (n:=9) (a:=a) S.ok (S.row m2) (hd.mo S.fr (by omega)) (by omega) (by omega)) ?_
     rintro v h ⟨f,r1,a1,rfl,hr1,ha1,R⟩
     have hl:=S.leaves (c:=b3) m0 f (by omega)
     replace S:=S.call1 (i:=2) rfl f (o':=.row _ _) R
     simp only [LC]at S
     have w9:ao .i64 ((r1:Int)-3)=(r1:Int)-3:=by rw [wrap64]<;>omega
     simp only [BS,LB,cls,Nat.reduceLT,Nat.reduceEqDiff,Nat.reduceAdd,Nat.reducePow,Nat.reduceDiv,Nat.reduceMod,Nat.reduceLeDiff,w9]
     refine dT (bW (by exact Tryz.u25) (by exact Tryz.e2E) (by decide) (by rfl)) S ?_;clear S;intro h bs S n_bs e_bs;simp only [LC,aP,bj,ah,Nat.reduceMul,Nat.reduceAdd,xj,xh,xo,xp]at S
     simp only [BS,LB,cls,Nat.reduceLT,Nat.reduceEqDiff,Nat.reduceAdd,Nat.reducePow,Nat.reduceDiv,Nat.reduceMod,Nat.reduceLeDiff]
     refine dn_v (S.grow (j:=0) (m:=1) (new:=ints [(r1:Int)-3]) rfl Tryz.u25 Tryz.e2E (by decide) Tryz.n25 (by simp only [aO];rw [S.lds (b:=bs) (o:=0) (n:=1*1) m0 (lbt rfl)];rfl) rfl (by decide) rfl (by rw [cN,cN];simp;omega)) ?_
     clear S
     rintro h vX' S
     simp only [LC]at S
     replace S:=S.drop1
     rw [<-lN]at S
     have fX:Fl vX':=(S.gown _ m0).1.fl
     simp only [BS,LB,cls,Nat.reduceLT,Nat.reduceEqDiff,Nat.reduceAdd,Nat.reducePow,Nat.reduceDiv,Nat.reduceMod,Nat.reduceLeDiff,Tryz.FFt831,r3]
     refine dV (aB S (i:=0) rfl ?_ ?_ ?_ ono) ?_
     . exact(by simp only [Tryz.FFt831])
     . exact(by assumption)
     . exact xg (lbt rfl)
     clear S;rintro h ⟨S,mo⟩;clear mo;simp only [LC,ah,lay,xe,xf,Nat.reduceAdd]at S
     simp only [BS,Nat.reduceAdd]
     refine⟨by simp only [bH,bJ,aZ,bM,bn,ne_eq,not_false_eq_true,bT,cC,bE,bu,cg,dm,aU,Nat.reduceLT,Nat.reduceEqDiff,reduceIte,xw,r3,ab,aR hl],?_⟩
     refine aA (aI rfl) (q:=16) (ps:=[(1,3)]) (by kernel_rfl) ?_
     simp only [BS,LB,cls,Nat.reduceLT,Nat.reduceEqDiff,Nat.reduceAdd,Nat.reducePow,Nat.reduceDiv,Nat.reduceMod,Nat.reduceLeDiff,Tryz.FFt831,r0,r3,S.ld (b:=b3) (o:=2) m0 rfl]
     clear f hl R
     refine dc (eU (n:=7) (a:=a1) S.ok (S.row m2) (hd.mo S.fr (by omega)) (by omega) (by omega)) ?_
     rintro v h ⟨f,r5,a2,rfl,hr5,ha2,R⟩
     have hl:=S.leaves (c:=b3) m0 f (by omega)
     replace S:=S.call1 (i:=2) rfl f (o':=.row _ _) R
     simp only [LC]at S
     simp only [BS,LB,cls,Nat.reduceLT,Nat.reduceEqDiff,Nat.reduceAdd,Nat.reducePow,Nat.reduceDiv,Nat.reduceMod,Nat.reduceLeDiff]
     refine dT (bW (by exact Tryz.u25) (by exact Tryz.e2E) (by decide) (by rfl)) S ?_;clear S;intro h bs S n_bs e_bs;simp only [LC,aP,bj,ah,Nat.reduceMul,Nat.reduceAdd,xj,xh,xo,xp]at S
     simp only [BS,LB,cls,Nat.reduceLT,Nat.reduceEqDiff,Nat.reduceAdd,Nat.reducePow,Nat.reduceDiv,Nat.reduceMod,Nat.reduceLeDiff]
     refine dn_v (S.grow (j:=1) (m:=1) (new:=ints [(r5:Int)]) rfl Tryz.u25 Tryz.e2E (by decide) Tryz.n25 (by simp only [aO];rw [S.lds (b:=bs) (o:=0) (n:=1*1) m0 (lbt rfl)];rfl) rfl (by decide) rfl (by rw [cN,cN];simp;omega)) ?_
     clear S
     rintro h vY' S
     simp only [LC]at S
     replace S:=S.drop1
     rw [<-lN]at S
     have fY:Fl vY':=(S.gown _ m1).1.fl
     simp only [BS,LB,cls,Nat.reduceLT,Nat.reduceEqDiff,Nat.reduceAdd,Nat.reducePow,Nat.reduceDiv,Nat.reduceMod,Nat.reduceLeDiff,Tryz.FFt831,r3]
     refine dV (aB S (i:=0) rfl ?_ ?_ ?_ ono) ?_
     . exact(by simp only [Tryz.FFt831])
     . exact(by assumption)
     . exact xg (lbt rfl)
     clear S;rintro h ⟨S,mo⟩;clear mo;simp only [LC,ah,lay,xe,xf,Nat.reduceAdd]at S
     simp only [BS,LB,Nat.reduceLT,Nat.reduceEqDiff,Nat.reduceAdd,r4]
     refine⟨by simp only [bH,bJ,aZ,bM,bn,ne_eq,not_false_eq_true,bT,cC,bE,bu,cg,dm,aU,Nat.reduceLT,Nat.reduceEqDiff,reduceIte,xw,r3,ab,aR hl],?_⟩
     have w:ao .i64 ((i:Int)+1)=((i+1:Nat):Int):=by rw [wrap64]<;>omega
     simp only [w]
     exact ih (i+1) _ _ (by omega) ⟨by omega,a2,vX',vY',_,_,by omega,by simp [lX],by simp [lY],
      fun x hx=>(List.mem_append.1 hx).elim (cX x) (fun h=>by simp at h;omega),fun x hx=>(List.mem_append.1 hx).elim (cY x) (fun h=>by simp at h;omega),S,by simp [aa,r0,ab],by simp [aa,r2,ab],by simp [aa,r3,ab],by simp [aa]⟩
   . have hiN : i=N:=by omega
     subst hiN
     simp only [BS,LB,Nat.reduceLT,Nat.reduceEqDiff,Tryz.FFt831,r0,r3,r4,aG,hlt,S.ld (b:=b3) (o:=0) m0 rfl]
     refine step_ret (eU (n:=9) (a:=a) S.ok (S.row m2) (hd.mo S.fr (by omega)) (by omega) (by omega)) ?_
     rintro v h ⟨f,r5,a1,rfl,hr5,ha1,R⟩
     replace S:=S.call1 (i:=2) rfl f (o':=.row _ _) R
     simp only [LC]at S
     simp only [BS,LB,Nat.reduceLT,Nat.reduceEqDiff]
     refine wz (fun ρ h=> ∃(X Y:List Int),X.length=i/\Y.length=i/\(∀x∈X,-2147483648<=x/\x<=2147483647)/\(∀x∈Y,-2147483648<=x/\x<=2147483647)/\
      St (· =bd) h0 h [(b3,.row [.int .i64 i,vX,vY,.slice none 0 0] 1),(b2,.row [.int .i64 0,.slice none 0 0,.slice none 0 0,.slice none 0 0] 1),(bd,.row [vB,.int .i64 a1] 1)] [(vX,1,ints X),(vY,1,ints Y),(.slice none 0 0,3,[])]/\
      ρ 0=ptrTo bd/\ρ 2=ptrTo b2/\ρ 3=ptrTo b3) ?_ ?_ ?_
     . intro _
       obtain⟨bX,ix,stX⟩:=S.gset (E:=xc) (t:=2) (j:=0) (i:=0) (kd:=.i64) rfl (by rw [cN];omega) Tryz.s2
       have ix':jy (some 1) vX (.int .i64 0)=_:=ix
       simp only [BS,LB,Nat.reduceLT,Nat.reduceEqDiff,Tryz.FFt831,r3,ix',S.ld (b:=b3) (o:=1) m0 rfl]
       refine az (stX _ bO) ?_
       clear S stX;intro h S
       simp only [LC]at S
       obtain⟨bY,iy,stY⟩:=S.gset (E:=xc) (t:=2) (j:=1) (i:=i-1) (kd:=.i64) rfl (by rw [cN];omega) Tryz.s2
       have w1:ao .i64 ((i:Int)-1)=((i-1:Nat):Int):=by rw [wrap64]<;>omega
       simp only [BS,LB,Nat.reduceLT,Nat.reduceEqDiff,Tryz.FFt831,r3,w1,iy,S.ld (b:=b3) (o:=0) m0 rfl,S.ld (b:=b3) (o:=2) m0 rfl]
       refine az (stY _ bO) ?_
       clear S stY;intro h S
       simp only [LC]at S
       simp only [BS]
       have eset: ∀(l:List Int) (j:Nat) (z:Int),(ints l).set j (.int .i64 z)=ints (l.set j z):=by
        intro l
        induction l with
        |nil=>intro j z;rfl
        | cons x l ih=>
          intro j z
          cases j with
          |zero=>rfl
          |succ j=>show _::_=_::_;exact congrArg _ (ih j z)
       rw [eset,eset]at S
       refine kD ⟨_,_,by simp [lX],by simp [lY],fun x hx=>?_,fun x hx=>?_,S,by simp [aa,r0,ab],by simp [aa,r2,ab],by simp [aa,r3,ab]⟩
       . rcases jq hx with rfl|⟨j,_,hx⟩
         . omega
         . exact cX x (xE hx)
       . rcases jq hx with rfl|⟨j,_,hx⟩
         . omega
         . exact cY x (xE hx)
     . intro _
       simp only [BS]
       exact kD ⟨X,Y,lX,lY,cX,cY,S,by simp [aa,r0,ab],by simp [aa,r2,ab],by simp [aa,r3,ab]⟩
     . clear S r0 r2 r3 r4 lX lY cX cY X Y f R
       rintro ρ h ⟨X,Y,lX,lY,cX,cY,S,r0,r2,r3⟩
       have w3:ao .i64 (3*(i:Int))=((3*i:Nat):Int):=by rw [wrap64]<;>omega
       have w4:ao .i64 (((3*i:Nat):Int)+1)=((3*i+1:Nat):Int):=by rw [wrap64]<;>omega
       simp only [BS,LB,Nat.reduceLT,Nat.reduceEqDiff,Tryz.FFt831,r0,r3,w3,w4,S.ld (b:=b3) (o:=0) m0 rfl]
       refine step_ret (eU (n:=3*i+1) (a:=a1) S.ok (S.row m2) (hd.mo S.fr (by omega)) (by omega) (by omega)) ?_
       rintro v h ⟨f,many,a2,rfl,hmany,ha2,R⟩
       replace S:=S.call1 (i:=2) rfl f (o':=.row _ _) R
       simp only [LC]at S
       simp only [BS,LB,Nat.reduceLT,Nat.reduceEqDiff,r0]
       refine step_ret (eU (n:=3) (a:=a2) S.ok (S.row m2) (hd.mo S.fr (by omega)) (by omega) (by omega)) ?_
       rintro v h ⟨f,rr,a3,rfl,hrr,ha3,R⟩
       replace S:=S.call1 (i:=2) rfl f (o':=.row _ _) R
       simp only [LC]at S
       simp only [BS,LB,Nat.reduceLT,Nat.reduceEqDiff]
       generalize decide ((0:Int)<(rr:Int))=ring
       refine sZ (fun ρ h=> ∃(a:Nat) (vA:Value) (A:List Arc),a<=a3+2*i/\A.length<=i/\(∀x∈A,x.s<i/\x.t<i/\x.w<=2147483647)/\
        St (· =bd) h0 h [(b3,.row [.int .i64 i,vX,vY,vA] 1),(b2,.row [.int .i64 0,.slice none 0 0,.slice none 0 0,.slice none 0 0] 1),(bd,.row [vB,.int .i64 a] 1)] [(vX,1,ints X),(vY,1,ints Y),(vA,3,A.flatMap cl)]/\
        ρ 0=ptrTo bd/\ρ 2=ptrTo b2/\ρ 3=ptrTo b3/\ρ 5=.int .i64 many)
        (fun(j:Nat) ρ h=>j<=i/\ ∃(a:Nat) (vA:Value) (A:List Arc),a<=a3+2*j/\A.length<=j/\(∀x∈A,x.s<i/\x.t<i/\x.w<=2147483647)/\
        St (· =bd) h0 h [(b3,.row [.int .i64 i,vX,vY,vA] 1),(b2,.row [.int .i64 0,.slice none 0 0,.slice none 0 0,.slice none 0 0] 1),(bd,.row [vB,.int .i64 a] 1)] [(vX,1,ints X),(vY,1,ints Y),(vA,3,A.flatMap cl)]/\
        ρ 0=ptrTo bd/\ρ 2=ptrTo b2/\ρ 3=ptrTo b3/\ρ 5=.int .i64 many/\ρ 6=.bool ring/\ρ 7=.int .i64 j) (fun j=>i-j) ?_ ?_ 0 ⟨by omega,a3,_,[],by omega,by simp,by simp,S,by simp [aa,r0,ab],by simp [aa,r2,ab],by simp [aa,r3,ab],by simp [aa],by simp [aa],by simp [aa]⟩
       . clear S r0 r2 r3 f R ih
         intro j ih ρ h ⟨hj,a,vA,A,ha,lA,cA,S,r0,r2,r3,r5,r6,r7⟩
         have flen:(A.flatMap cl).length=A.length*3:=aS et A
         by_cases hlt:j<i/\ring=true
         . obtain⟨hlt,hring⟩:=hlt
           subst hring
           have w1:ao .i64 ((j:Int)+1)=((j+1:Nat):Int):=by rw [wrap64]<;>omega
           have ci:(i:Int)≠0:=by omega
           have tm:((j+1:Nat):Int).tmod (i:Int)=(((j+1)%i:Nat):Int):=by rw [xx (by omega)];exact(Int.natCast_emod _ _).symm
           simp only [BS,LB,Nat.reduceLT,Nat.reduceEqDiff,Tryz.FFt831,r3,r6,r7,aG,hlt,S.ld (b:=b3) (o:=0) m0 rfl]
           refine aA (aI rfl) (q:=2048) (ps:=[(6,9),(1,9)]) (by kernel_rfl) ?_
           simp only [BS,LB,cls,Nat.reduceLT,Nat.reduceEqDiff,Nat.reduceAdd,Nat.reducePow,Nat.reduceDiv,Nat.reduceMod,Nat.reduceLeDiff,Tryz.FFt831,r0,r3,r7,w1,m9 ci,tm,S.ld (b:=b3) (o:=0) m0 rfl,S.ld (b:=b3) (o:=3) m0 rfl]
           refine dc (so (a:=a) S.ok (S.row m2) (hd.mo S.fr (by omega)) (by omega)) ?_
           rintro v h ⟨f,wt,a4,rfl,hwt,ha4,R⟩
           have hl:=S.leaves (c:=b3) m0 f (by omega)
           replace S:=S.call1 (i:=2) rfl f (o':=.row _ _) R
           simp only [LC]at S
           simp only [BS,LB,cls,Nat.reduceLT,Nat.reduceEqDiff,Nat.reduceAdd,Nat.reducePow,Nat.reduceDiv,Nat.reduceMod,Nat.reduceLeDiff,Tryz.FFt831]
           refine dT (bW (by exact Tryz.u26) (by exact Tryz.e49E) (by decide) (by rfl)) S ?_;clear S;intro h bs S n_bs e_bs;simp only [LC,aP,bj,ah,Nat.reduceMul,Nat.reduceAdd,xj,xh,xo,xp]at S
           simp only [BS,LB,cls,Nat.reduceLT,Nat.reduceEqDiff,Nat.reduceAdd,Nat.reducePow,Nat.reduceDiv,Nat.reduceMod,Nat.reduceLeDiff]
           refine dn_v (S.grow (j:=2) (m:=1) (new:=cl ⟨j,(j+1)%i,wt⟩) rfl Tryz.u26 Tryz.e49E (by decide) Tryz.n26 (by simp only [aO];rw [S.lds (b:=bs) (o:=0) (n:=1*3) m0 (lbt rfl)];rfl) rfl (by decide) rfl (by rw [flen,et];omega)) ?_
           clear S
           rintro h vA' S
           simp only [LC]at S
           replace S:=S.drop1
           have fA:Fl vA':=(S.gown _ m2).1.fl
           simp only [BS,LB,cls,Nat.reduceLT,Nat.reduceEqDiff,Nat.reduceAdd,Nat.reducePow,Nat.reduceDiv,Nat.reduceMod,Nat.reduceLeDiff,Tryz.FFt831,r3]
           refine dV (aB S (i:=0) rfl ?_ ?_ ?_ ono) ?_
           . exact(by simp only [Tryz.FFt831])
           . exact(by assumption)
           . exact xg (lbt rfl)
           clear S;rintro h ⟨S,mo⟩;clear mo;simp only [LC,ah,lay,xe,xf,Nat.reduceAdd]at S
           simp only [BS,LB,Nat.reduceLT,Nat.reduceEqDiff,Nat.reduceAdd,r7]
           refine⟨by simp only [bH,bJ,aZ,bM,bn,ne_eq,not_false_eq_true,bT,cC,bE,bu,cg,dm,aU,Nat.reduceLT,Nat.reduceEqDiff,reduceIte,xw,r3,ab,aR hl],?_⟩
           simp only [w1]
           have hmod:(j+1)%i<i:=Nat.mod_lt _ (by omega)
           exact ih (j+1) _ _ (by omega) ⟨by omega,a4,vA',A++[⟨j,(j+1)%i,wt⟩],by omega,by simp;omega,
            fun x hx=>(List.mem_append.1 hx).elim (cA x) (fun h=>by simp at h;subst h;exact⟨hlt,hmod,hwt⟩),by rw [xn];simpa using S,by simp [aa,r0,ab],by simp [aa,r2,ab],by simp [aa,r3,ab],by simp [aa,r5],by simp [aa,r6],by simp [aa]⟩
         . by_cases hji:j<i
           . have hring:ring=false:=by cases ring with
              |false=>rfl
              |true=>exact absurd ⟨hji,rfl⟩ hlt
             subst hring
             simp only [BS,LB,Nat.reduceLT,Nat.reduceEqDiff,Tryz.FFt831,r3,r6,r7,aG,hji,S.ld (b:=b3) (o:=0) m0 rfl]
             exact kD ⟨a,vA,A,by omega,by omega,cA,S,by simp [aa,r0,ab],by simp [aa,r2,ab],by simp [aa,r3,ab],by simp [aa,r5]⟩
           . simp only [BS,LB,Nat.reduceLT,Nat.reduceEqDiff,Tryz.FFt831,r3,r7,aG,hji,S.ld (b:=b3) (o:=0) m0 rfl]
             exact kD ⟨a,vA,A,by omega,by omega,cA,S,by simp [aa,r0,ab],by simp [aa,r2,ab],by simp [aa,r3,ab],by simp [aa,r5]⟩
       . clear S r0 r2 r3 f R ih
         rintro ρ h ⟨a,vA,A,ha,lA,cA,S,r0,r2,r3,r5⟩
         simp only [BS]
         refine sZ (fun ρ h=> ∃(a:Nat) (vA:Value) (A:List Arc),A.length<=100/\(∀x∈A,x.s<i/\x.t<i/\x.w<=2147483647)/\
          St (· =bd) h0 h [(b3,.row [.int .i64 i,vX,vY,vA] 1),(b2,.row [.int .i64 0,.slice none 0 0,.slice none 0 0,.slice none 0 0] 1),(bd,.row [vB,.int .i64 a] 1)] [(vX,1,ints X),(vY,1,ints Y),(vA,3,A.flatMap cl)]/\
          ρ 0=ptrTo bd/\ρ 2=ptrTo b2/\ρ 3=ptrTo b3)
          (fun(k:Nat) ρ h=>k<=many/\ ∃(a:Nat) (vA:Value) (A:List Arc),a<=a3+2*i+6*k/\A.length<=i+2*k/\(∀x∈A,x.s<i/\x.t<i/\x.w<=2147483647)/\
          St (· =bd) h0 h [(b3,.row [.int .i64 i,vX,vY,vA] 1),(b2,.row [.int .i64 0,.slice none 0 0,.slice none 0 0,.slice none 0 0] 1),(bd,.row [vB,.int .i64 a] 1)] [(vX,1,ints X),(vY,1,ints Y),(vA,3,A.flatMap cl)]/\
          ρ 0=ptrTo bd/\ρ 2=ptrTo b2/\ρ 3=ptrTo b3/\ρ 5=.int .i64 many/\ρ 8=.int .i64 k) (fun k=>many-k) ?_ ?_ 0 ⟨by omega,a,vA,A,by omega,by omega,cA,S,by simp [aa,r0,ab],by simp [aa,r2,ab],by simp [aa,r3,ab],by simp [aa,r5],by simp [aa]⟩
         . clear S r0 r2 r3 r5 ha lA cA a vA A
           intro k ih ρ h ⟨hk,a,vA,A,ha,lA,cA,S,r0,r2,r3,r5,r8⟩
           have flen:(A.flatMap cl).length=A.length*3:=aS et A
           by_cases hlt:k<many
           . simp only [BS,LB,Nat.reduceLT,Nat.reduceEqDiff,r5,r8,aG,hlt]
             refine aA (sG (ord:=[11,0,1,2,3,4,5,6,7,8,9,10,12]) rfl rfl (by simp only [fo,reix,fq,List.getElem?_cons_zero,List.getElem?_cons_succ,List.map_toArray,List.map_cons,List.map_nil,Nat.reduceBEq,cond_true,cond_false];exact rfl)) (q:=1) (ps:=[(0,10),(0,8),(4,7),(0,4)]) (by kernel_rfl) ?_
             simp only [BS,LB,cls,Nat.reducePow,Nat.reduceDiv,Nat.reduceMod,Nat.reduceLeDiff,Tryz.FFt831]
             refine dT ax S ?_;clear S;intro h b9 S n_b9 e_b9
             simp only [BS,LB,cls,Nat.reduceLT,Nat.reduceEqDiff,Nat.reduceAdd,Nat.reducePow,Nat.reduceDiv,Nat.reduceMod,Nat.reduceLeDiff,Tryz.FFt831,r0,r3,S.ld (b:=b3) (o:=0) m1 rfl]
             refine dc (eU (n:=i) (a:=a) S.ok (S.row m3) (hd.mo S.fr (by omega)) (by omega) (by omega)) ?_
             rintro v h ⟨f,s1,a4,rfl,hs1,ha4,R⟩
             have hl0:=S.leaves (c:=b9) m0 f (by omega)
             have hl4:=S.leaves (c:=b3) m1 f (by omega)
             replace S:=S.call1 (i:=3) rfl f (o':=.row _ _) R
             simp only [LC]at S
             simp only [BS,LB,cls,Nat.reduceLT,Nat.reduceEqDiff,Nat.reduceAdd,Nat.reducePow,Nat.reduceDiv,Nat.reduceMod,Nat.reduceLeDiff,Tryz.FFt831,r0,r3,S.ld (b:=b3) (o:=0) m1 rfl]
             refine dc (eU (n:=i) (a:=a4) S.ok (S.row m3) (hd.mo S.fr (by omega)) (by omega) (by omega)) ?_
             rintro v h ⟨f,s2,a5,rfl,hs2,ha5,R⟩
             have hl1:=S.leaves (c:=b9) m0 f (by omega)
             have hl2:=S.leaves (c:=b3) m1 f (by omega)
             replace S:=S.call1 (i:=3) rfl f (o':=.row _ _) R
             simp only [LC]at S
             simp only [BS,LB,cls,Nat.reduceLT,Nat.reduceEqDiff,Nat.reduceAdd,Nat.reducePow,Nat.reduceDiv,Nat.reduceMod,Nat.reduceLeDiff,r0]
             refine dc (so (a:=a5) S.ok (S.row m3) (hd.mo S.fr (by omega)) (by omega)) ?_
             rintro v h ⟨f,wt,a6,rfl,hwt,ha6,R⟩
             have hl3:=S.leaves (c:=b9) m0 f (by omega)
             replace S:=S.call1 (i:=3) rfl f (o':=.row _ _) R
             simp only [LC]at S
             simp only [BS,LB,cls,Nat.reduceLT,Nat.reduceEqDiff,Nat.reduceAdd,Nat.reducePow,Nat.reduceDiv,Nat.reduceMod,Nat.reduceLeDiff,Tryz.FFt831]
             refine dV (S.store (i:=0) rfl ?_ ?_ rfl rfl ?_ ono) ?_
             . exact(by exact Tryz.s49)
             . exact(by intro x e;cases e)
             . exact lbt rfl
             clear S;rintro h ⟨S,mo⟩;clear mo;simp only [LC,ah,lay,xe,xf,Nat.reduceAdd]at S
             simp only [BS,LB,Nat.reduceLT,Nat.reduceEqDiff,Nat.reduceAdd,Tryz.FFt831,r3]
             refine⟨by simp only [bH,bJ,aZ,bM,bn,ne_eq,not_false_eq_true,bT,cC,bE,bu,cg,dm,aU,Nat.reduceLT,Nat.reduceEqDiff,reduceIte,xw,r3,ab,<-e_b9,aR hl0,aR hl1,aR hl2,aR hl3,bw hl4],?_⟩
             simp only [BS,LB,Nat.reduceLT,Nat.reduceEqDiff,Tryz.FFt831,S.ld (b:=b3) (o:=3) m1 rfl,S.lds (b:=b9) (o:=0) (n:=3) m0 (lbt rfl)]
             refine ag (bW (by exact Tryz.u26) (by exact Tryz.e49E) (by decide) (by rfl)) S ?_;clear S;intro h bs S n_bs;simp only [LC,aP,bj,ah,Nat.reduceMul,Nat.reduceAdd,xj,xh,xo,xp]at S
             simp only [BS,LB,Nat.reduceLT,Nat.reduceEqDiff]
             refine e6 (S.grow (j:=2) (m:=1) (new:=cl ⟨s1,s2,wt⟩) rfl Tryz.u26 Tryz.e49E (by decide) Tryz.n26 (by simp only [aO];rw [S.lds (b:=bs) (o:=0) (n:=1*3) m0 (lbt rfl)];rfl) rfl (by decide) rfl (by rw [flen,et];omega)) ?_
             clear S
             rintro h vA' S
             simp only [LC]at S
             replace S:=S.drop1
             have fA:Fl vA':=(S.gown _ m2).1.fl
             simp only [BS,LB,Nat.reduceLT,Nat.reduceEqDiff,Tryz.FFt831,r3]
             refine az (aB S (i:=1) rfl ?_ ?_ ?_ ono) ?_
             . exact(by simp only [Tryz.FFt831])
             . exact(by assumption)
             . exact xg (lbt rfl)
             clear S;rintro h ⟨S,mo⟩;clear mo;simp only [LC,ah,lay,xe,xf,Nat.reduceAdd]at S
             simp only [BS,LB,Nat.reduceLT,Nat.reduceEqDiff,r0]
             refine step_ret (eU (n:=4) (a:=a6) S.ok (S.row m3) (hd.mo S.fr (by omega)) (by omega) (by omega)) ?_
             rintro v h ⟨f,r9,a7,rfl,hr9,ha7,R⟩
             replace S:=S.call1 (i:=3) rfl f (o':=.row _ _) R
             simp only [LC]at S
             have w8:ao .i64 ((k:Int)+1)=((k+1:Nat):Int):=by rw [wrap64]<;>omega
             have flen':(A.flatMap cl++cl ⟨s1,s2,wt⟩).length=A.length*3+3:=by rw [List.length_append,flen,et]
             have cA': ∀x∈A++[(⟨s1,s2,wt⟩:Arc)],x.s<i/\x.t<i/\x.w<=2147483647:=fun x hx=>(List.mem_append.1 hx).elim (cA x) (fun h=>by simp at h;subst h;exact⟨hs1,hs2,hwt⟩)
             by_cases hz:(r9:Int)=0
             . simp only [BS,LB,Nat.reduceLT,Nat.reduceEqDiff,Nat.reduceAdd,Tryz.FFt831,r3,hz,S.ld (b:=b3) (o:=3) m1 rfl,S.ld (b:=b9) (o:=0) m0 rfl,S.ld (b:=b9) (o:=1) m0 rfl,S.ld (b:=b9) (o:=2) m0 rfl]
               refine ag (bW (by exact Tryz.u26) (by exact Tryz.e49E) (by decide) (by rfl)) S ?_;clear S;intro h bs S n_bs;simp only [LC,aP,bj,ah,Nat.reduceMul,Nat.reduceAdd,xj,xh,xo,xp]at S
               simp only [BS,LB,Nat.reduceLT,Nat.reduceEqDiff]
               refine e6 (S.grow (j:=2) (m:=1) (new:=cl ⟨s2,s1,wt⟩) rfl Tryz.u26 Tryz.e49E (by decide) Tryz.n26 (by simp only [aO];rw [S.lds (b:=bs) (o:=0) (n:=1*3) m0 (lbt rfl)];rfl) rfl (by decide) rfl (by rw [flen',et];omega)) ?_
               clear S
               rintro h vA2 S
               simp only [LC]at S
               replace S:=S.drop1
               have fA:Fl vA2:=(S.gown _ m2).1.fl
               simp only [BS,LB,Nat.reduceLT,Nat.reduceEqDiff,Tryz.FFt831,r3]
               refine az (aB S (i:=1) rfl ?_ ?_ ?_ ono) ?_
               . exact(by simp only [Tryz.FFt831])
               . exact(by assumption)
               . exact xg (lbt rfl)
               clear S;rintro h ⟨S,mo⟩;clear mo;simp only [LC,ah,lay,xe,xf,Nat.reduceAdd]at S
               simp only [BS,LB,Nat.reduceLT,Nat.reduceEqDiff,r8,w8]
               replace S:=S.drop1
               exact ih (k+1) _ _ (by omega) ⟨by omega,a7,vA2,A++[⟨s1,s2,wt⟩]++[⟨s2,s1,wt⟩],by omega,by simp;omega,
                fun x hx=>(List.mem_append.1 hx).elim (cA' x) (fun h=>by simp at h;subst h;exact⟨hs2,hs1,hwt⟩),by rw [xn,xn];simpa using S,by simp [aa,r0,ab],by simp [aa,r2,ab],by simp [aa,r3,ab],by simp [aa,r5],by simp [aa]⟩
             . simp only [BS,LB,Nat.reduceLT,Nat.reduceEqDiff,r8,hz,w8]
               replace S:=S.drop1
               exact ih (k+1) _ _ (by omega) ⟨by omega,a7,vA',A++[⟨s1,s2,wt⟩],by omega,by simp;omega,
                cA',by rw [xn];simpa using S,by simp [aa,r0,ab],by simp [aa,r2,ab],by simp [aa,r3,ab],by simp [aa,r5],by simp [aa]⟩
           . simp only [BS,LB,Nat.reduceLT,Nat.reduceEqDiff,r5,r8,aG,hlt]
             exact kD ⟨a,vA,A,by omega,cA,S,by simp [aa,r0,ab],by simp [aa,r2,ab],by simp [aa,r3,ab]⟩
         . clear S r0 r2 r3 r5 ha lA cA a vA A
           rintro ρ h ⟨a,vA,A,lA,cA,S,r0,r2,r3⟩
           simp only [BS,LB,Nat.reduceLT,Nat.reduceEqDiff,Tryz.FFt831,r2,r3,S.lds (b:=b3) (o:=0) (n:=4) m0 (lbt rfl)]
           have fX:Fl vX:=(S.gown _ m0).1.fl
           have fY:Fl vY:=(S.gown _ m1).1.fl
           have fA:Fl vA:=(S.gown _ m2).1.fl
           refine az (S.store (i:=1) rfl Tryz.s28 (by intro x e;cases e) rfl (by simp only [ah,xe,xf,List.all_cons,List.all_nil,fX.2.1,fY.2.1,fA.2.1,xw];rfl) (lbt rfl) ono) ?_
           clear S;rintro h ⟨S,_⟩
           simp only [LC,ah,lay,xe,xf,Nat.reduceAdd]at S
           simp only [BS,ae]
           refine⟨_,pb (by decide) (by simp only [aU,r2,ab,Nat.reduceEqDiff,reduceIte];exact dH Tryz.a28 Tryz.s28 (S.lds (b:=b2) (o:=0) (n:=4) m1 (lbt rfl))),?_⟩
           have blk: ∀p∈[(vX,1,ints X),(vY,1,ints Y),(vA,3,A.flatMap cl)],∀c,au p.1 c->h0.n<=c:=by
            intro p hp c hc
            obtain⟨h1,h2⟩:=S.gblk hp hc
            rcases h1 with h1|h1
            . exact h1
            . exact absurd (by simp [h1]) h2
           refine⟨S.fr,⟨i,X,Y,A⟩,vX,vY,vA,rfl,⟨show 1<=i by omega,show i<=12 by omega,lX,lY,cX,cY,lA,cA⟩,⟨(S.gown _ m0).1.sl rfl (fun _=>rfl) (by decide),(S.gown _ m1).1.sl rfl (fun _=>rfl) (by decide),(S.gown _ m2).1.sl rfl (fun _=>rfl) (by decide)⟩,?_⟩
           rintro c (hc|hc|hc)
           . exact blk _ m0 c hc
           . exact blk _ m1 c hc
           . exact blk _ m2 c hc
 . exact⟨by omega,a0,_,_,[],[],by omega,rfl,rfl,by simp,by simp,S,by simp [aa,cm,ab],by simp [aa,ab],by simp [aa,ab],by simp [aa]⟩
open Tryz in
def Tryz.FFt980:=aj a1<|aj s1<|aj z1<|aj n1<|aj u2<|aj a2<|aj s2<|aj z2<|aj i2<|aj u3<|aj a3<|aj s3<|aj z3<|aj i3<|aj u25<|aj a25<|aj s25<|aj z25<|aj q25<|aj n25<|aj u26<|aj a26<|aj s26<|aj z26<|aj q26<|aj n26<|aj a28<|aj s28<|aj z28<|aj i28<|aj n28<|aj p28<|aj ff28<|aj d28<|aj a49<|aj s49<|aj z49<|aj i49<|aj n49<|aj p49<|aj ff49<|d49
theorem aF{h h':Hp}{b:Nat}(g:Gr h h')(hb:b<h.n):leaves h h' b=true:=mE (g.get b hb)
theorem own_ok{h0:Hp}(ok:h0.t.Sized h0.n){γ:Gra}(hγ:Good γ){vx vy va:Value}(ga:cM h0 vx vy va γ):
 Ret xc 80 [iq γ vx vy va] h0 fun v h'=>Gr h0 h'/\ ∃vx vy va,v=iq γ vx vy va/\cM h' vx vy va γ/\(∀c,au vx c\/au vy c\/au va c->h0.n<=c)/\WrK h' 3 cl va γ.arcs/\ ∀c,au va c-> ¬au vx c/\ ¬au vy c:=by
 have S:=Si ok
 have lX:=hγ.lX
 have lY:=hγ.lY
 have n2:=hγ.n2
 have many:=hγ.many
 refine ac (n:=16) (rs:=[.cell 2 28]) rfl Tryz.e80 rfl rfl rfl (lbt rfl) ?_
 simp only [BS,Nat.reduceLT,iq]
 refine ag (bR (by intro x e;cases e)) S ?_;clear S;intro h b S n_b;simp only [ah]at S
 simp only [BS,Tryz.FFt980]
 refine ag ax S ?_;clear S;intro h b2 S n_b2
 simp only [BS]
 refine aA (aI rfl) (q:=0) (ps:=[(5,7),(2,7),(2,4)]) (by kernel_rfl) ?_
 simp only [BS,LB,cls,Nat.reduceLT,Nat.reduceEqDiff,Nat.reduceAdd,Nat.reducePow,Nat.reduceDiv,Nat.reduceMod,Nat.reduceLeDiff,Tryz.FFt980,S.ld (b:=b) (o:=1) m1 rfl]
 refine dc (qI S.ok (ga.X.gr S.gr) (by omega)) ?_
 have k1:=S.fr.n
 rintro v1 h ⟨g,s1,q1⟩
 have e1:=aF g ((S.row (b:=b) m1).lt S.ok)
 have a1: ∀c,au v1 c-> ¬c=b:=fun c hc e=>by have:=q1 c hc;have:=(S.row (b:=b) m1).lt S.ok;omega
 have b1': ∀c,au v1 c-> ¬c=b2:=fun c hc e=>by have:=q1 c hc;have:=(S.row (b:=b2) m0).lt S.ok;omega
 replace S:=S.call g
 simp only [BS,LB,cls,Nat.reduceLT,Nat.reduceEqDiff,Nat.reduceAdd,Nat.reducePow,Nat.reduceDiv,Nat.reduceMod,Nat.reduceLeDiff,Tryz.FFt980,S.ld (b:=b) (o:=2) m1 rfl]
 refine dc (qI S.ok (ga.Y.gr S.gr) (by omega)) ?_
 have k2:=S.fr.n
 rintro v2 h ⟨g,s2,q2⟩
 have e2:=aF g ((S.row (b:=b) m1).lt S.ok)
 have a2: ∀c,au v2 c-> ¬c=b:=fun c hc e=>by have:=q2 c hc;have:=(S.row (b:=b) m1).lt S.ok;omega
 have b2': ∀c,au v2 c-> ¬c=b2:=fun c hc e=>by have:=q2 c hc;have:=(S.row (b:=b2) m0).lt S.ok;omega
 replace S:=S.call g
 replace s1:=s1.gr g
 simp only [BS,LB,cls,Nat.reduceLT,Nat.reduceEqDiff,Nat.reduceAdd,Nat.reducePow,Nat.reduceDiv,Nat.reduceMod,Nat.reduceLeDiff,Tryz.FFt980,S.ld (b:=b) (o:=3) m1 rfl]
 refine dc (uJ S.ok (ga.A.gr S.gr) (by omega)) ?_
 have k3:=S.fr.n
 rintro v3 h ⟨g,s3,q3,w3⟩
 have d3: ∀c,au v3 c-> ¬au v1 c/\ ¬au v2 c:=fun c hc=>⟨fun h=>by have:=q3 c hc;have:=s1.lt S.ok h;omega,fun h=>by have:=q3 c hc;have:=s2.lt S.ok h;omega⟩
 have e3:=aF g ((S.row (b:=b) m1).lt S.ok)
 have a3: ∀c,au v3 c-> ¬c=b:=fun c hc e=>by have:=q3 c hc;have:=(S.row (b:=b) m1).lt S.ok;omega
 have b3': ∀c,au v3 c-> ¬c=b2:=fun c hc e=>by have:=q3 c hc;have:=(S.row (b:=b2) m0).lt S.ok;omega
 replace S:=S.call g
 replace s1:=s1.gr g
 replace s2:=s2.gr g
 have z: ∀c,au v1 c\/au v2 c\/au v3 c->h0.n<=c:=fun c hc=>by
  rcases hc with h|h|h
  . exact xA k1 (q1 c h)
  . exact xA k2 (q2 c h)
  . exact xA k3 (q3 c h)
 have f1:=s1.fl
 have f2:=s2.fl
 have f3:=s3.fl
 simp only [BS,LB,cls,Nat.reduceLT,Nat.reduceEqDiff,Nat.reduceAdd,Nat.reducePow,Nat.reduceDiv,Nat.reduceMod,Nat.reduceLeDiff,Tryz.FFt980]
 refine dV (aB S (i:=1) rfl ?_ ?_ ?_ ono) ?_
 . exact(by simp only [Tryz.FFt980])
 . exact(by assumption)
 . exact xg (lbt rfl)
 clear S;rintro h ⟨S,mo⟩;replace s1:=s1.mo mo a1;replace s2:=s2.mo mo a2;replace s3:=s3.mo mo a3;replace w3:=w3.mo mo a3;clear mo;simp only [LC,ah,lay,xe,xf,Nat.reduceAdd]at S
 simp only [BS,LB,cls,Nat.reduceLT,Nat.reduceEqDiff,Nat.reduceAdd,Nat.reducePow,Nat.reduceDiv,Nat.reduceMod,Nat.reduceLeDiff,Tryz.FFt980]
 refine dV (aB S (i:=1) rfl ?_ ?_ ?_ ono) ?_
 . exact(by simp only [Tryz.FFt980])
 . exact(by assumption)
 . exact xg (lbt rfl)
 clear S;rintro h ⟨S,mo⟩;replace s1:=s1.mo mo a1;replace s2:=s2.mo mo a2;replace s3:=s3.mo mo a3;replace w3:=w3.mo mo a3;clear mo;simp only [LC,ah,lay,xe,xf,Nat.reduceAdd]at S
 simp only [BS,LB,cls,Nat.reduceLT,Nat.reduceEqDiff,Nat.reduceAdd,Nat.reducePow,Nat.reduceDiv,Nat.reduceMod,Nat.reduceLeDiff,Tryz.FFt980]
 refine dV (aB S (i:=1) rfl ?_ ?_ ?_ ono) ?_
 . exact(by simp only [Tryz.FFt980])
 . exact(by assumption)
 . exact xg (lbt rfl)
 clear S;rintro h ⟨S,mo⟩;replace s1:=s1.mo mo a1;replace s2:=s2.mo mo a2;replace s3:=s3.mo mo a3;replace w3:=w3.mo mo a3;clear mo;simp only [LC,ah,lay,xe,xf,Nat.reduceAdd]at S
 simp only [BS,LB,Nat.reduceLT,Nat.reduceEqDiff,Nat.reduceAdd,Tryz.FFt980]
 refine⟨by simp only [bH,bJ,aZ,bM,bn,ne_eq,not_false_eq_true,bT,cC,bE,bu,cg,dm,aU,Nat.reduceLT,Nat.reduceEqDiff,reduceIte,xw,aQ,ab,aR e1,aR e2,aR e3,bw e1,bw e2,bw e3],?_⟩
 simp only [BS,LB,Nat.reduceLT,Nat.reduceEqDiff,S.lds (b:=b) (o:=0) (n:=4) m1 (lbt rfl)]
 refine az (S.store (i:=0) rfl Tryz.s28 (by intro x e;cases e) rfl (by simp only [ah,xe,xf,List.all_cons,List.all_nil,f1.2.1,f2.2.1,f3.2.1,xw];rfl) (lbt rfl) ono) ?_
 clear S
 rintro h' ⟨S,g2⟩
 simp only [LC,ah,lay,xe,xf,Nat.reduceAdd]at S
 simp only [BS,ae]
 refine⟨_,pb (by decide) (by simp only [aU,ab,Nat.reduceEqDiff,reduceIte];exact dH Tryz.a28 Tryz.s28 (S.lds (b:=b2) (o:=0) (n:=4) m0 (lbt rfl))),?_⟩
 exact⟨S.gr,v1,v2,v3,rfl,⟨s1.mo g2 b1',s2.mo g2 b2',s3.mo g2 b3'⟩,z,w3.mo g2 b3',d3⟩
end Go.Ab
end
section
namespace Go.Ab
section
variable(A:List Arc)(f:Arc->Nat)
def outs(j v:Nat):List Nat:=(xm j).filter fun i=>decide (f (A.getD i default)=v)
def start:Nat->Nat
 |0=>0
 |v+1=>start v+(outs A f A.length v).length
theorem fE(j v:Nat):outs A f (j+1) v=outs A f j v++(if f (A.getD j default)=v then [j]else []):=by
 unfold outs
 rw [xJ,List.filter_append]
 congr 1
 by_cases h:f (A.getD j default)=v
 . simp only [xI,List.filter_nil,h,decide_true,if_true]
 . simp only [xI,List.filter_nil,h,decide_false,if_false,Bool.false_eq_true]
theorem outs_pre{j k:Nat}(h:j<=k)(v:Nat): ∃l,outs A f k v=outs A f j v++l:=by
 induction k with
 | zero => have:j=0:=by omega
           subst this;exact⟨[],by simp⟩
 | succ k ih=>
   by_cases hk:j=k+1
   . subst hk;exact⟨[],by simp⟩
   . obtain⟨l,hl⟩:=ih (by omega)
     exact⟨l++_,by rw [fE,hl,List.append_assoc]⟩
theorem rJ{j k:Nat}(h:j<=k)(v:Nat):(outs A f j v).length<=(outs A f k v).length:=by
 obtain⟨l,hl⟩:=outs_pre A f h v
 rw [hl,List.length_append];omega
theorem start_eq (v:Nat):start A f v=((xm A.length).filter fun i=>decide (f (A.getD i default)<v)).length:=by
 have key: ∀(l:List Nat) (v:Nat),(l.filter fun i=>decide (f (A.getD i default)<v+1)).length=(l.filter fun i=>decide (f (A.getD i default)<v)).length+(l.filter fun i=>decide (f (A.getD i default)=v)).length:=by
  intro l v
  induction l with
  |nil=>rfl
  | cons x l ih=>
    simp only [xI]
    by_cases h1:f (A.getD x default)<v
    . have h2:f (A.getD x default)<v+1:=by omega
      have h3: ¬f (A.getD x default)=v:=by omega
      rw [if_pos (decide_eq_true h2),if_pos (decide_eq_true h1),if_neg (by rw [decide_eq_true_eq];exact h3),xB,xB,ih];omega
    . by_cases h3:f (A.getD x default)=v
      . have h2:f (A.getD x default)<v+1:=by omega
        rw [if_pos (decide_eq_true h2),if_neg (by rw [decide_eq_true_eq];exact h1),if_pos (decide_eq_true h3),xB,xB,ih];omega
      . have h2: ¬f (A.getD x default)<v+1:=by omega
        rw [if_neg (by rw [decide_eq_true_eq];exact h2),if_neg (by rw [decide_eq_true_eq];exact h1),if_neg (by rw [decide_eq_true_eq];exact h3),ih]
 induction v with
 |zero=>rw [start];symm;rw [List.length_eq_zero_iff,List.filter_eq_nil_iff];intro a _;simp only [Nat.not_lt_zero,decide_false,Bool.false_eq_true,not_false_eq_true]
 |succ v ih=>rw [start,ih,key];rfl
theorem lU(v:Nat):start A f v+(outs A f A.length v).length<=A.length:=by
 have:=start_eq A f (v+1)
 rw [start]at this
 rw [this]
 exact xA (List.length_filter_le _ _) (by simp)
theorem qL{u v:Nat}(h:u<v):start A f u+(outs A f A.length u).length<=start A f v:=by
 induction v with
 |zero=>omega
 | succ v ih=>
   rw [start]
   by_cases hu:u=v
   . subst hu;exact xK _
   . have:=ih (by omega);omega
theorem u7{u v r s:Nat}(hr:r<(outs A f A.length u).length)(hs:s<(outs A f A.length v).length)(h:start A f u+r=start A f v+s):u=v/\r=s:=by
 rcases Nat.lt_trichotomy u v with h1|h1|h1
 . have:=qL A f h1;omega
 . subst h1;exact⟨rfl,by omega⟩
 . have:=qL A f h1;omega
end
def cw(x:Nat):List Value:=[.int .i64 x]
theorem dU(x:Nat):(cw x).length=1:=rfl
def ez(h:Hp)(m:Nat)(v:Value)(N:Nat)(R:Nat->List Nat):Prop:=
 ∃bv vs,v=.slice (some ⟨bv,0,none⟩) N N/\m<=bv/\Row h bv vs 1/\vs.length=N/\ ∀i,i<N-> ∃w,vs[i]? =some w/\aE h 1 cw w (R i)/\ ∀c,au w c->m<=c
theorem ez.mo{M:Nat->Prop}{h h':Hp}{v:Value}{m N:Nat}{R:Nat->List Nat}(r:ez h m v N R)(g:Mo M h h')(hm: ∀b,M b->b<m):ez h' m v N R:=by
 obtain⟨bv,vs,h1,h0,h2,h3,h4⟩:=r
 refine⟨bv,vs,h1,by omega,g.has (o:=.row vs 1) h2 (fun h=>by have:=hm _ h;omega),h3,fun i hi=>?_⟩
 obtain⟨w,a,b,c⟩:=h4 i hi
 exact⟨w,a,b.mo g fun x hx hM=>by have:=hm _ hM;have:=c x hx;omega,fun x hx=>by have:=c x hx;omega⟩
theorem ez.gr{h h':Hp}{v:Value}{m N:Nat}{R:Nat->List Nat}(g:Gr h h')(r:ez h m v N R):ez h' m v N R:=
 r.mo (M:=NoM) g.fr (fun _ h=>h.elim)
theorem ez.low{h:Hp}{v:Value}{m m' N:Nat}{R:Nat->List Nat}(r:ez h m v N R)(hm:m'<=m):ez h m' v N R:=by
 obtain⟨bv,vs,h1,h0,h2,h3,h4⟩:=r
 exact⟨bv,vs,h1,by omega,h2,h3,fun i hi=>by
  obtain⟨w,a,b,c⟩:=h4 i hi
  exact⟨w,a,b,fun x hx=>by have:=c x hx;omega⟩⟩
structure aY(h:Hp)(m:Nat)(p:Value)(γ:Gra):Prop where
 ex: ∃b vx vy va vo vi,p=ptrTo b/\Row h b [.int .i64 γ.nodes,vx,vy,va,vo,vi] 1/\cM h vx vy va γ/\ez h m vo γ.nodes (outs γ.arcs Arc.s γ.arcs.length)/\ez h m vi γ.nodes (outs γ.arcs Arc.t γ.arcs.length)/\m<=b/\ ∀c,au vx c\/au vy c\/au va c->m<=c
theorem cM.mo{M:Nat->Prop}{h h':Hp}{vx vy va:Value}{γ:Gra}(a:cM h vx vy va γ)(g:Mo M h h')(hm: ∀c,au vx c\/au vy c\/au va c-> ¬M c):cM h' vx vy va γ:=
 ⟨a.X.mo g fun c h=>hm c (.inl h),a.Y.mo g fun c h=>hm c (.inr (.inl h)),a.A.mo g fun c h=>hm c (.inr (.inr h))⟩
theorem aY.mo{M:Nat->Prop}{h h':Hp}{m:Nat}{p:Value}{γ:Gra}(n:aY h m p γ)(g:Mo M h h')(hm: ∀b,M b->b<m):aY h' m p γ:=by
 obtain⟨b,vx,vy,va,vo,vi,h1,h2,h3,h4,h5,h6,h7⟩:=n.ex
 exact⟨b,vx,vy,va,vo,vi,h1,g.has (o:=.row _ 1) h2 (fun h=>by have:=hm _ h;omega),h3.mo g (fun c hc hM=>by have:=hm _ hM;have:=h7 c hc;omega),h4.mo g hm,h5.mo g hm,h6,h7⟩
theorem aY.gr{h h':Hp}{m:Nat}{p:Value}{γ:Gra}(n:aY h m p γ)(g:Gr h h'):aY h' m p γ:=n.mo (M:=NoM) g.fr (fun _ h=>h.elim)
theorem gw{α:Type}{N k:Nat}{F F':Nat->α}(hk: ∀i,i<N->i≠k->F' i=F i):((xm N).map F).set k (F' k)=(xm N).map F':=by
 refine List.ext_getElem? fun i=>?_
 rw [List.getElem?_set]
 by_cases hi:i<N
 . by_cases e:k=i
   . subst e;simp [hi]
   . rw [if_neg e];simp [hi,hk i hi (Ne.symm e)]
 . by_cases e:k=i
   . subst e;simp [hi]
   . rw [if_neg e];simp [hi]
theorem gZ{α:Type}{N k:Nat}{F:Nat->α}(hk:k<N):((xm N).map F)[k]? =some (F k):=by simp [hk]
end Go.Ab

end

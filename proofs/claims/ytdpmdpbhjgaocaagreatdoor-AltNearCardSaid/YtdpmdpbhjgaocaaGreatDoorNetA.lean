/- Nets, cells, flags: what the functions do (part 1). -/
import Derived.Test.YtdpmdpbhjgaocaaGreatDoorEnv
open Go.Ab.Tryz renaming abEnv->xW
open And renaming intro->xX
open List renaming take->xY,drop->xZ,getD_eq_getElem?_getD->yc,range->yf,flatMap_append->yg,getElem?_append_right->yj,getElem?_append_left->yk,getElem?_map->yl,length_flatMap->yo,getElem?_eq_getElem->yp,length_cons->yr,map_const'->yt,mem_of_getElem?->yu,take_succ_cons->yv,getElem_mem->yw,filter_cons->yy,range_succ->yz,drop_zero->yB,take_zero->yC,drop_succ_cons->yD
open Nat renaming lt_of_succ_le->ya,zero_add->yb,zero_mul->yd,mul_one->yh,one_mul->yi,le_trans->yq,le_refl->yA
open Int renaming cast_ofNat_Int->ye,tmod_eq_emod_of_nonneg->yn
open Bool renaming and_true->ym
open Option renaming getD_some->yx
set_option maxHeartbeats 4000000
set_option linter.defProp false
set_option linter.unusedVariables false
set_option linter.unusedSimpArgs false
section
namespace Go.Ab
theorem Si{h:Hp}(ok:h.t.Sized h.n):St NoM h h [] []:=St.init ok
theorem aj{a b:Prop}(x:a)(y:b):a/\b:=⟨x,y⟩
set_option linter.defProp false in
def LC:=xX @List.set_cons_zero.{0}<|xX @List.set_cons_succ.{0}<|xX @List.cons_append.{0}<|xX @List.nil_append.{0}<|xX @List.append_nil.{0}<|xX @List.length_cons.{0}<|xX @List.length_nil.{0}<|@Nat.add_zero
theorem lbt{a b:Nat}(h:Nat.ble a b=true):a<=b:=Nat.le_of_ble_eq_true h
theorem ono:(1:Nat)≠0:=Nat.one_ne_zero
set_option linter.defProp false in
def LB:=xX @if_true.{1}<|xX @if_false.{1}<|xX @eq_self.{1}<|xX @List.map_cons.{0,0}<|xX @List.map_nil.{0,0}<|xX @List.append_nil.{0}<|xX @List.nil_append.{0}<|xX @List.cons_append.{0}<|xX @List.getElem?_cons_zero.{0}<|xX @List.getElem?_cons_succ.{0}<|xX @List.set_cons_zero.{0}<|xX @List.set_cons_succ.{0}<|xX @List.length_cons.{0}<|xX @List.length_nil.{0}<|xX @Nat.add_zero<|xX @Nat.zero_add<|xX @Nat.mul_one<|xX @Nat.zero_mul<|xX @cond_true.{1}<|xX @cond_false.{1}<|xX @decide_true<|xX @decide_false<|xX @Bool.and_true<|xX @Bool.and_false<|xX @Bool.not_false<|xX @Bool.not_true<|xX @true_and<|xX @and_true<|xX @Option.isSome_some.{0}<|@List.map_toArray.{0,0}
open Go.Proofs
theorem Tryz.a1:Tryz.abEnv.agg 1=some false:=by kernel_rfl
theorem Tryz.s1:Tryz.abEnv.sz 1=some 1:=by kernel_rfl
theorem Tryz.z1:Tryz.abEnv.zero 1=some [.nilFunc]:=by kernel_rfl
theorem Tryz.n1:ax xW 1=some false:=by kernel_rfl
theorem Tryz.u2:Tryz.abEnv.und 2=some (.int .i64):=by kernel_rfl
theorem Tryz.a2:Tryz.abEnv.agg 2=some false:=by kernel_rfl
theorem Tryz.s2:Tryz.abEnv.sz 2=some 1:=by kernel_rfl
theorem Tryz.z2:Tryz.abEnv.zero 2=some [.int .i64 0]:=by kernel_rfl
theorem Tryz.i2:aQ xW 2=true:=by kernel_rfl
theorem Tryz.e2E:dN xW 2 8 1 [.int .i64 0]:=⟨⟨_,rfl,by kernel_rfl,by kernel_rfl⟩,Tryz.z2,rfl⟩
theorem Tryz.u3:Tryz.abEnv.und 3=some (.int .i64):=by kernel_rfl
theorem Tryz.a3:Tryz.abEnv.agg 3=some false:=by kernel_rfl
theorem Tryz.s3:Tryz.abEnv.sz 3=some 1:=by kernel_rfl
theorem Tryz.z3:Tryz.abEnv.zero 3=some [.int .i64 0]:=by kernel_rfl
theorem Tryz.i3:aQ xW 3=true:=by kernel_rfl
theorem Tryz.e3E:dN xW 3 8 1 [.int .i64 0]:=⟨⟨_,rfl,by kernel_rfl,by kernel_rfl⟩,Tryz.z3,rfl⟩
theorem Tryz.u4:Tryz.abEnv.und 4=some .bool:=by kernel_rfl
theorem Tryz.a4:Tryz.abEnv.agg 4=some false:=by kernel_rfl
theorem Tryz.s4:Tryz.abEnv.sz 4=some 1:=by kernel_rfl
theorem Tryz.z4:Tryz.abEnv.zero 4=some [.bool false]:=by kernel_rfl
theorem Tryz.n4:ax xW 4=some false:=by kernel_rfl
theorem Tryz.e4E:dN xW 4 1 1 [.bool false]:=⟨⟨_,rfl,by kernel_rfl,by kernel_rfl⟩,Tryz.z4,rfl⟩
theorem Tryz.u5:Tryz.abEnv.und 5=some (.int .u8):=by kernel_rfl
theorem Tryz.a5:Tryz.abEnv.agg 5=some false:=by kernel_rfl
theorem Tryz.s5:Tryz.abEnv.sz 5=some 1:=by kernel_rfl
theorem Tryz.z5:Tryz.abEnv.zero 5=some [.int .u8 0]:=by kernel_rfl
theorem Tryz.i5:aQ xW 5=true:=by kernel_rfl
theorem Tryz.u6:Tryz.abEnv.und 6=some (.int .u8):=by kernel_rfl
theorem Tryz.a6:Tryz.abEnv.agg 6=some false:=by kernel_rfl
theorem Tryz.s6:Tryz.abEnv.sz 6=some 1:=by kernel_rfl
theorem Tryz.z6:Tryz.abEnv.zero 6=some [.int .u8 0]:=by kernel_rfl
theorem Tryz.i6:aQ xW 6=true:=by kernel_rfl
theorem Tryz.a7:Tryz.abEnv.agg 7=some true:=by kernel_rfl
theorem Tryz.s7:Tryz.abEnv.sz 7=some 4:=by kernel_rfl
theorem Tryz.z7:Tryz.abEnv.zero 7=some [.int .i64 0,.int .i64 0,.bool false,.int .u8 0]:=by kernel_rfl
theorem Tryz.i7:aQ xW 7=true:=by kernel_rfl
theorem Tryz.n7:ax xW 7=some false:=by kernel_rfl
theorem Tryz.p7:placesOf xW 7=some [(0,1),(1,1),(2,1),(3,1)]:=by kernel_rfl
theorem Tryz.ff7(b o:Nat)(s:Option Nat):an xW 7 (.pointer (some ⟨b,o,s⟩)) 0=some (.pointer (some ⟨b,o+0,none⟩))/\an xW 7 (.pointer (some ⟨b,o,s⟩)) 1=some (.pointer (some ⟨b,o+1,none⟩))/\an xW 7 (.pointer (some ⟨b,o,s⟩)) 2=some (.pointer (some ⟨b,o+2,none⟩))/\an xW 7 (.pointer (some ⟨b,o,s⟩)) 3=some (.pointer (some ⟨b,o+3,none⟩)):=⟨rfl,rfl,rfl,rfl⟩
theorem Tryz.d7(x0 x1 x2 x3:Value):aq xW 7 (.agg ⟨[x0,x1,x2,x3]⟩) 0=some x0/\aq xW 7 (.agg ⟨[x0,x1,x2,x3]⟩) 1=some x1/\aq xW 7 (.agg ⟨[x0,x1,x2,x3]⟩) 2=some x2/\aq xW 7 (.agg ⟨[x0,x1,x2,x3]⟩) 3=some x3:=⟨rfl,rfl,rfl,rfl⟩
theorem Tryz.a8:Tryz.abEnv.agg 8=some true:=by kernel_rfl
theorem Tryz.s8:Tryz.abEnv.sz 8=some 4:=by kernel_rfl
theorem Tryz.z8:Tryz.abEnv.zero 8=some [.int .i64 0,.int .i64 0,.bool false,.int .u8 0]:=by kernel_rfl
theorem Tryz.i8:aQ xW 8=true:=by kernel_rfl
theorem Tryz.n8:ax xW 8=some false:=by kernel_rfl
theorem Tryz.p8:placesOf xW 8=some [(0,1),(1,1),(2,1),(3,1)]:=by kernel_rfl
theorem Tryz.ff8(b o:Nat)(s:Option Nat):an xW 8 (.pointer (some ⟨b,o,s⟩)) 0=some (.pointer (some ⟨b,o+0,none⟩))/\an xW 8 (.pointer (some ⟨b,o,s⟩)) 1=some (.pointer (some ⟨b,o+1,none⟩))/\an xW 8 (.pointer (some ⟨b,o,s⟩)) 2=some (.pointer (some ⟨b,o+2,none⟩))/\an xW 8 (.pointer (some ⟨b,o,s⟩)) 3=some (.pointer (some ⟨b,o+3,none⟩)):=⟨rfl,rfl,rfl,rfl⟩
theorem Tryz.d8(x0 x1 x2 x3:Value):aq xW 8 (.agg ⟨[x0,x1,x2,x3]⟩) 0=some x0/\aq xW 8 (.agg ⟨[x0,x1,x2,x3]⟩) 1=some x1/\aq xW 8 (.agg ⟨[x0,x1,x2,x3]⟩) 2=some x2/\aq xW 8 (.agg ⟨[x0,x1,x2,x3]⟩) 3=some x3:=⟨rfl,rfl,rfl,rfl⟩
theorem Tryz.u9:Tryz.abEnv.und 9=some .string:=by kernel_rfl
theorem Tryz.a9:Tryz.abEnv.agg 9=some false:=by kernel_rfl
theorem Tryz.s9:Tryz.abEnv.sz 9=some 1:=by kernel_rfl
theorem Tryz.z9:Tryz.abEnv.zero 9=some [.string ⟨#[]⟩]:=by kernel_rfl
theorem Tryz.n9:ax xW 9=some false:=by kernel_rfl
theorem Tryz.u10:Tryz.abEnv.und 10=some .string:=by kernel_rfl
theorem Tryz.a10:Tryz.abEnv.agg 10=some false:=by kernel_rfl
theorem Tryz.s10:Tryz.abEnv.sz 10=some 1:=by kernel_rfl
theorem Tryz.z10:Tryz.abEnv.zero 10=some [.string ⟨#[]⟩]:=by kernel_rfl
theorem Tryz.n10:ax xW 10=some false:=by kernel_rfl
theorem Tryz.u11:Tryz.abEnv.und 11=some .string:=by kernel_rfl
theorem Tryz.a11:Tryz.abEnv.agg 11=some false:=by kernel_rfl
theorem Tryz.s11:Tryz.abEnv.sz 11=some 1:=by kernel_rfl
theorem Tryz.z11:Tryz.abEnv.zero 11=some [.string ⟨#[]⟩]:=by kernel_rfl
theorem Tryz.n11:ax xW 11=some false:=by kernel_rfl
theorem Tryz.u12:Tryz.abEnv.und 12=some (.int .u64):=by kernel_rfl
theorem Tryz.a12:Tryz.abEnv.agg 12=some false:=by kernel_rfl
theorem Tryz.s12:Tryz.abEnv.sz 12=some 1:=by kernel_rfl
theorem Tryz.z12:Tryz.abEnv.zero 12=some [.int .u64 0]:=by kernel_rfl
theorem Tryz.i12:aQ xW 12=true:=by kernel_rfl
theorem Tryz.a13:Tryz.abEnv.agg 13=some true:=by kernel_rfl
theorem Tryz.s13:Tryz.abEnv.sz 13=some 2:=by kernel_rfl
theorem Tryz.z13:Tryz.abEnv.zero 13=some [.string ⟨#[]⟩,.int .u64 0]:=by kernel_rfl
theorem Tryz.i13:aQ xW 13=true:=by kernel_rfl
theorem Tryz.n13:ax xW 13=some false:=by kernel_rfl
theorem Tryz.p13:placesOf xW 13=some [(0,1),(1,1)]:=by kernel_rfl
theorem Tryz.ff13(b o:Nat)(s:Option Nat):an xW 13 (.pointer (some ⟨b,o,s⟩)) 0=some (.pointer (some ⟨b,o+0,none⟩))/\an xW 13 (.pointer (some ⟨b,o,s⟩)) 1=some (.pointer (some ⟨b,o+1,none⟩)):=⟨rfl,rfl⟩
theorem Tryz.d13(x0 x1:Value):aq xW 13 (.agg ⟨[x0,x1]⟩) 0=some x0/\aq xW 13 (.agg ⟨[x0,x1]⟩) 1=some x1:=⟨rfl,rfl⟩
theorem Tryz.a14:Tryz.abEnv.agg 14=some true:=by kernel_rfl
theorem Tryz.s14:Tryz.abEnv.sz 14=some 2:=by kernel_rfl
theorem Tryz.z14:Tryz.abEnv.zero 14=some [.string ⟨#[]⟩,.int .u64 0]:=by kernel_rfl
theorem Tryz.i14:aQ xW 14=true:=by kernel_rfl
theorem Tryz.n14:ax xW 14=some false:=by kernel_rfl
theorem Tryz.p14:placesOf xW 14=some [(0,1),(1,1)]:=by kernel_rfl
theorem Tryz.ff14(b o:Nat)(s:Option Nat):an xW 14 (.pointer (some ⟨b,o,s⟩)) 0=some (.pointer (some ⟨b,o+0,none⟩))/\an xW 14 (.pointer (some ⟨b,o,s⟩)) 1=some (.pointer (some ⟨b,o+1,none⟩)):=⟨rfl,rfl⟩
theorem Tryz.d14(x0 x1:Value):aq xW 14 (.agg ⟨[x0,x1]⟩) 0=some x0/\aq xW 14 (.agg ⟨[x0,x1]⟩) 1=some x1:=⟨rfl,rfl⟩
theorem Tryz.u15:Tryz.abEnv.und 15=some (.pointer 274):=by kernel_rfl
theorem Tryz.a15:Tryz.abEnv.agg 15=some false:=by kernel_rfl
theorem Tryz.s15:Tryz.abEnv.sz 15=some 1:=by kernel_rfl
theorem Tryz.z15:Tryz.abEnv.zero 15=some [.pointer none]:=by kernel_rfl
theorem Tryz.q15:fS xW 15=true:=by kernel_rfl
theorem Tryz.i15:aQ xW 15=true:=by kernel_rfl
theorem Tryz.n15:ax xW 15=some false:=by kernel_rfl
theorem Tryz.u16:Tryz.abEnv.und 16=some (.pointer 277):=by kernel_rfl
theorem Tryz.a16:Tryz.abEnv.agg 16=some false:=by kernel_rfl
theorem Tryz.s16:Tryz.abEnv.sz 16=some 1:=by kernel_rfl
theorem Tryz.z16:Tryz.abEnv.zero 16=some [.pointer none]:=by kernel_rfl
theorem Tryz.q16:fS xW 16=true:=by kernel_rfl
theorem Tryz.i16:aQ xW 16=true:=by kernel_rfl
theorem Tryz.n16:ax xW 16=some false:=by kernel_rfl
theorem Tryz.u17:Tryz.abEnv.und 17=some (.pointer 285):=by kernel_rfl
theorem Tryz.a17:Tryz.abEnv.agg 17=some false:=by kernel_rfl
theorem Tryz.s17:Tryz.abEnv.sz 17=some 1:=by kernel_rfl
theorem Tryz.z17:Tryz.abEnv.zero 17=some [.pointer none]:=by kernel_rfl
theorem Tryz.q17:fS xW 17=true:=by kernel_rfl
theorem Tryz.i17:aQ xW 17=true:=by kernel_rfl
theorem Tryz.n17:ax xW 17=some false:=by kernel_rfl
theorem Tryz.a18:Tryz.abEnv.agg 18=some true:=by kernel_rfl
theorem Tryz.s18:Tryz.abEnv.sz 18=some 1:=by kernel_rfl
theorem Tryz.z18:Tryz.abEnv.zero 18=some [.pointer none]:=by kernel_rfl
theorem Tryz.i18:aQ xW 18=true:=by kernel_rfl
theorem Tryz.n18:ax xW 18=some false:=by kernel_rfl
theorem Tryz.p18:placesOf xW 18=some [(0,1)]:=by kernel_rfl
theorem Tryz.ff18(b o:Nat)(s:Option Nat):an xW 18 (.pointer (some ⟨b,o,s⟩)) 0=some (.pointer (some ⟨b,o+0,none⟩)):=rfl
theorem Tryz.d18(x0:Value):aq xW 18 (.agg ⟨[x0]⟩) 0=some x0:=rfl
theorem Tryz.a19:Tryz.abEnv.agg 19=some true:=by kernel_rfl
theorem Tryz.s19:Tryz.abEnv.sz 19=some 1:=by kernel_rfl
theorem Tryz.z19:Tryz.abEnv.zero 19=some [.pointer none]:=by kernel_rfl
theorem Tryz.i19:aQ xW 19=true:=by kernel_rfl
theorem Tryz.n19:ax xW 19=some false:=by kernel_rfl
theorem Tryz.p19:placesOf xW 19=some [(0,1)]:=by kernel_rfl
theorem Tryz.ff19(b o:Nat)(s:Option Nat):an xW 19 (.pointer (some ⟨b,o,s⟩)) 0=some (.pointer (some ⟨b,o+0,none⟩)):=rfl
theorem Tryz.d19(x0:Value):aq xW 19 (.agg ⟨[x0]⟩) 0=some x0:=rfl
theorem Tryz.a20:Tryz.abEnv.agg 20=some false:=by kernel_rfl
theorem Tryz.s20:Tryz.abEnv.sz 20=some 1:=by kernel_rfl
theorem Tryz.z20:Tryz.abEnv.zero 20=some [.nilIface]:=by kernel_rfl
theorem Tryz.q20:isIface xW 20=true:=by kernel_rfl
theorem Tryz.n20:ax xW 20=some false:=by kernel_rfl
theorem Tryz.u21:Tryz.abEnv.und 21=some (.int .i32):=by kernel_rfl
theorem Tryz.a21:Tryz.abEnv.agg 21=some false:=by kernel_rfl
theorem Tryz.s21:Tryz.abEnv.sz 21=some 1:=by kernel_rfl
theorem Tryz.z21:Tryz.abEnv.zero 21=some [.int .i32 0]:=by kernel_rfl
theorem Tryz.i21:aQ xW 21=true:=by kernel_rfl
theorem Tryz.u22:Tryz.abEnv.und 22=some (.slice 5):=by kernel_rfl
theorem Tryz.a22:Tryz.abEnv.agg 22=some false:=by kernel_rfl
theorem Tryz.s22:Tryz.abEnv.sz 22=some 1:=by kernel_rfl
theorem Tryz.z22:Tryz.abEnv.zero 22=some [.slice none 0 0]:=by kernel_rfl
theorem Tryz.q22:jn xW 22=true:=by kernel_rfl
theorem Tryz.n22:ax xW 22=some false:=by kernel_rfl
theorem Tryz.a24:Tryz.abEnv.agg 24=some true:=by kernel_rfl
theorem Tryz.s24:Tryz.abEnv.sz 24=some 4:=by kernel_rfl
theorem Tryz.z24:Tryz.abEnv.zero 24=some [.int .i64 0,.int .i64 0,.int .i64 0,.int .i64 0]:=by kernel_rfl
theorem Tryz.i24:aQ xW 24=true:=by kernel_rfl
theorem Tryz.n24:ax xW 24=some false:=by kernel_rfl
theorem Tryz.p24:placesOf xW 24=some [(0,1),(1,1),(2,1),(3,1)]:=by kernel_rfl
theorem Tryz.ff24(b o:Nat)(s:Option Nat):an xW 24 (.pointer (some ⟨b,o,s⟩)) 0=some (.pointer (some ⟨b,o+0,none⟩))/\an xW 24 (.pointer (some ⟨b,o,s⟩)) 1=some (.pointer (some ⟨b,o+1,none⟩))/\an xW 24 (.pointer (some ⟨b,o,s⟩)) 2=some (.pointer (some ⟨b,o+2,none⟩))/\an xW 24 (.pointer (some ⟨b,o,s⟩)) 3=some (.pointer (some ⟨b,o+3,none⟩)):=⟨rfl,rfl,rfl,rfl⟩
theorem Tryz.d24(x0 x1 x2 x3:Value):aq xW 24 (.agg ⟨[x0,x1,x2,x3]⟩) 0=some x0/\aq xW 24 (.agg ⟨[x0,x1,x2,x3]⟩) 1=some x1/\aq xW 24 (.agg ⟨[x0,x1,x2,x3]⟩) 2=some x2/\aq xW 24 (.agg ⟨[x0,x1,x2,x3]⟩) 3=some x3:=⟨rfl,rfl,rfl,rfl⟩
theorem Tryz.u25:Tryz.abEnv.und 25=some (.slice 2):=by kernel_rfl
theorem Tryz.a25:Tryz.abEnv.agg 25=some false:=by kernel_rfl
theorem Tryz.s25:Tryz.abEnv.sz 25=some 1:=by kernel_rfl
theorem Tryz.z25:Tryz.abEnv.zero 25=some [.slice none 0 0]:=by kernel_rfl
theorem Tryz.q25:jn xW 25=true:=by kernel_rfl
theorem Tryz.n25:ax xW 25=some false:=by kernel_rfl
theorem Tryz.e25E:dN xW 25 24 1 [.slice none 0 0]:=⟨⟨_,rfl,by kernel_rfl,by kernel_rfl⟩,Tryz.z25,rfl⟩
theorem Tryz.a27:Tryz.abEnv.agg 27=some true:=by kernel_rfl
theorem Tryz.s27:Tryz.abEnv.sz 27=some 7:=by kernel_rfl
theorem Tryz.z27:Tryz.abEnv.zero 27=some [.slice none 0 0,.slice none 0 0,.int .i64 0,.int .i64 0,.int .i64 0,.int .i64 0,.slice none 0 0]:=by kernel_rfl
theorem Tryz.i27:aQ xW 27=true:=by kernel_rfl
theorem Tryz.n27:ax xW 27=some false:=by kernel_rfl
theorem Tryz.p27:placesOf xW 27=some [(0,1),(1,1),(2,4),(6,1)]:=by kernel_rfl
theorem Tryz.ff27(b o:Nat)(s:Option Nat):an xW 27 (.pointer (some ⟨b,o,s⟩)) 0=some (.pointer (some ⟨b,o+0,none⟩))/\an xW 27 (.pointer (some ⟨b,o,s⟩)) 1=some (.pointer (some ⟨b,o+1,none⟩))/\an xW 27 (.pointer (some ⟨b,o,s⟩)) 2=some (.pointer (some ⟨b,o+2,none⟩))/\an xW 27 (.pointer (some ⟨b,o,s⟩)) 3=some (.pointer (some ⟨b,o+6,none⟩)):=⟨rfl,rfl,rfl,rfl⟩
theorem Tryz.d27(x0 x1 x2 x3 x4 x5 x6:Value):aq xW 27 (.agg ⟨[x0,x1,x2,x3,x4,x5,x6]⟩) 0=some x0/\aq xW 27 (.agg ⟨[x0,x1,x2,x3,x4,x5,x6]⟩) 1=some x1/\aq xW 27 (.agg ⟨[x0,x1,x2,x3,x4,x5,x6]⟩) 2=some (.agg ⟨[x2,x3,x4,x5]⟩)/\aq xW 27 (.agg ⟨[x0,x1,x2,x3,x4,x5,x6]⟩) 3=some x6:=⟨rfl,rfl,rfl,rfl⟩
theorem Tryz.u28:Tryz.abEnv.und 28=some (.slice 59):=by kernel_rfl
theorem Tryz.a28:Tryz.abEnv.agg 28=some false:=by kernel_rfl
theorem Tryz.s28:Tryz.abEnv.sz 28=some 1:=by kernel_rfl
theorem Tryz.z28:Tryz.abEnv.zero 28=some [.slice none 0 0]:=by kernel_rfl
theorem Tryz.q28:jn xW 28=true:=by kernel_rfl
theorem Tryz.n28:ax xW 28=some false:=by kernel_rfl
theorem Tryz.a30:Tryz.abEnv.agg 30=some true:=by kernel_rfl
theorem Tryz.s30:Tryz.abEnv.sz 30=some 4:=by kernel_rfl
theorem Tryz.z30:Tryz.abEnv.zero 30=some [.int .i64 0,.slice none 0 0,.slice none 0 0,.slice none 0 0]:=by kernel_rfl
theorem Tryz.i30:aQ xW 30=true:=by kernel_rfl
theorem Tryz.n30:ax xW 30=some false:=by kernel_rfl
theorem Tryz.p30:placesOf xW 30=some [(0,1),(1,1),(2,1),(3,1)]:=by kernel_rfl
theorem Tryz.ff30(b o:Nat)(s:Option Nat):an xW 30 (.pointer (some ⟨b,o,s⟩)) 0=some (.pointer (some ⟨b,o+0,none⟩))/\an xW 30 (.pointer (some ⟨b,o,s⟩)) 1=some (.pointer (some ⟨b,o+1,none⟩))/\an xW 30 (.pointer (some ⟨b,o,s⟩)) 2=some (.pointer (some ⟨b,o+2,none⟩))/\an xW 30 (.pointer (some ⟨b,o,s⟩)) 3=some (.pointer (some ⟨b,o+3,none⟩)):=⟨rfl,rfl,rfl,rfl⟩
theorem Tryz.d30(x0 x1 x2 x3:Value):aq xW 30 (.agg ⟨[x0,x1,x2,x3]⟩) 0=some x0/\aq xW 30 (.agg ⟨[x0,x1,x2,x3]⟩) 1=some x1/\aq xW 30 (.agg ⟨[x0,x1,x2,x3]⟩) 2=some x2/\aq xW 30 (.agg ⟨[x0,x1,x2,x3]⟩) 3=some x3:=⟨rfl,rfl,rfl,rfl⟩
theorem Tryz.u32:Tryz.abEnv.und 32=some (.pointer 148):=by kernel_rfl
theorem Tryz.a32:Tryz.abEnv.agg 32=some false:=by kernel_rfl
theorem Tryz.s32:Tryz.abEnv.sz 32=some 1:=by kernel_rfl
theorem Tryz.z32:Tryz.abEnv.zero 32=some [.pointer none]:=by kernel_rfl
theorem Tryz.q32:fS xW 32=true:=by kernel_rfl
theorem Tryz.i32:aQ xW 32=true:=by kernel_rfl
theorem Tryz.n32:ax xW 32=some false:=by kernel_rfl
theorem Tryz.a34:Tryz.abEnv.agg 34=some false:=by kernel_rfl
theorem Tryz.s34:Tryz.abEnv.sz 34=some 1:=by kernel_rfl
theorem Tryz.z34:Tryz.abEnv.zero 34=some [.nilIface]:=by kernel_rfl
theorem Tryz.q34:isIface xW 34=true:=by kernel_rfl
theorem Tryz.n34:ax xW 34=some false:=by kernel_rfl
theorem Tryz.u38:Tryz.abEnv.und 38=some (.pointer 96):=by kernel_rfl
theorem Tryz.a38:Tryz.abEnv.agg 38=some false:=by kernel_rfl
theorem Tryz.s38:Tryz.abEnv.sz 38=some 1:=by kernel_rfl
theorem Tryz.z38:Tryz.abEnv.zero 38=some [.pointer none]:=by kernel_rfl
theorem Tryz.q38:fS xW 38=true:=by kernel_rfl
theorem Tryz.i38:aQ xW 38=true:=by kernel_rfl
theorem Tryz.n38:ax xW 38=some false:=by kernel_rfl
theorem Tryz.u40:Tryz.abEnv.und 40=some (.slice 3):=by kernel_rfl
theorem Tryz.a40:Tryz.abEnv.agg 40=some false:=by kernel_rfl
theorem Tryz.s40:Tryz.abEnv.sz 40=some 1:=by kernel_rfl
theorem Tryz.z40:Tryz.abEnv.zero 40=some [.slice none 0 0]:=by kernel_rfl
theorem Tryz.q40:jn xW 40=true:=by kernel_rfl
theorem Tryz.n40:ax xW 40=some false:=by kernel_rfl
theorem Tryz.e40E:dN xW 40 24 1 [.slice none 0 0]:=⟨⟨_,rfl,by kernel_rfl,by kernel_rfl⟩,Tryz.z40,rfl⟩
theorem Tryz.u44:Tryz.abEnv.und 44=some (.int .i64):=by kernel_rfl
theorem Tryz.a44:Tryz.abEnv.agg 44=some false:=by kernel_rfl
theorem Tryz.s44:Tryz.abEnv.sz 44=some 1:=by kernel_rfl
theorem Tryz.z44:Tryz.abEnv.zero 44=some [.int .i64 0]:=by kernel_rfl
theorem Tryz.i44:aQ xW 44=true:=by kernel_rfl
theorem Tryz.a46:Tryz.abEnv.agg 46=some true:=by kernel_rfl
theorem Tryz.s46:Tryz.abEnv.sz 46=some 4:=by kernel_rfl
theorem Tryz.z46:Tryz.abEnv.zero 46=some [.int .i64 0,.int .i64 0,.slice none 0 0,.slice none 0 0]:=by kernel_rfl
theorem Tryz.i46:aQ xW 46=true:=by kernel_rfl
theorem Tryz.n46:ax xW 46=some false:=by kernel_rfl
theorem Tryz.p46:placesOf xW 46=some [(0,1),(1,1),(2,1),(3,1)]:=by kernel_rfl
theorem Tryz.ff46(b o:Nat)(s:Option Nat):an xW 46 (.pointer (some ⟨b,o,s⟩)) 0=some (.pointer (some ⟨b,o+0,none⟩))/\an xW 46 (.pointer (some ⟨b,o,s⟩)) 1=some (.pointer (some ⟨b,o+1,none⟩))/\an xW 46 (.pointer (some ⟨b,o,s⟩)) 2=some (.pointer (some ⟨b,o+2,none⟩))/\an xW 46 (.pointer (some ⟨b,o,s⟩)) 3=some (.pointer (some ⟨b,o+3,none⟩)):=⟨rfl,rfl,rfl,rfl⟩
theorem Tryz.d46(x0 x1 x2 x3:Value):aq xW 46 (.agg ⟨[x0,x1,x2,x3]⟩) 0=some x0/\aq xW 46 (.agg ⟨[x0,x1,x2,x3]⟩) 1=some x1/\aq xW 46 (.agg ⟨[x0,x1,x2,x3]⟩) 2=some x2/\aq xW 46 (.agg ⟨[x0,x1,x2,x3]⟩) 3=some x3:=⟨rfl,rfl,rfl,rfl⟩
theorem Tryz.u47:Tryz.abEnv.und 47=some (.slice 57):=by kernel_rfl
theorem Tryz.a47:Tryz.abEnv.agg 47=some false:=by kernel_rfl
theorem Tryz.s47:Tryz.abEnv.sz 47=some 1:=by kernel_rfl
theorem Tryz.z47:Tryz.abEnv.zero 47=some [.slice none 0 0]:=by kernel_rfl
theorem Tryz.q47:jn xW 47=true:=by kernel_rfl
theorem Tryz.n47:ax xW 47=some false:=by kernel_rfl
theorem Tryz.a57:Tryz.abEnv.agg 57=some true:=by kernel_rfl
theorem Tryz.s57:Tryz.abEnv.sz 57=some 4:=by kernel_rfl
theorem Tryz.z57:Tryz.abEnv.zero 57=some [.int .i64 0,.int .i64 0,.int .i64 0,.int .i64 0]:=by kernel_rfl
theorem Tryz.i57:aQ xW 57=true:=by kernel_rfl
theorem Tryz.n57:ax xW 57=some false:=by kernel_rfl
theorem Tryz.p57:placesOf xW 57=some [(0,1),(1,1),(2,1),(3,1)]:=by kernel_rfl
theorem Tryz.ff57(b o:Nat)(s:Option Nat):an xW 57 (.pointer (some ⟨b,o,s⟩)) 0=some (.pointer (some ⟨b,o+0,none⟩))/\an xW 57 (.pointer (some ⟨b,o,s⟩)) 1=some (.pointer (some ⟨b,o+1,none⟩))/\an xW 57 (.pointer (some ⟨b,o,s⟩)) 2=some (.pointer (some ⟨b,o+2,none⟩))/\an xW 57 (.pointer (some ⟨b,o,s⟩)) 3=some (.pointer (some ⟨b,o+3,none⟩)):=⟨rfl,rfl,rfl,rfl⟩
theorem Tryz.d57(x0 x1 x2 x3:Value):aq xW 57 (.agg ⟨[x0,x1,x2,x3]⟩) 0=some x0/\aq xW 57 (.agg ⟨[x0,x1,x2,x3]⟩) 1=some x1/\aq xW 57 (.agg ⟨[x0,x1,x2,x3]⟩) 2=some x2/\aq xW 57 (.agg ⟨[x0,x1,x2,x3]⟩) 3=some x3:=⟨rfl,rfl,rfl,rfl⟩
theorem Tryz.e57E:dN xW 57 32 4 [.int .i64 0,.int .i64 0,.int .i64 0,.int .i64 0]:=⟨⟨_,rfl,by kernel_rfl,by kernel_rfl⟩,Tryz.z57,rfl⟩
theorem Tryz.a59:Tryz.abEnv.agg 59=some true:=by kernel_rfl
theorem Tryz.s59:Tryz.abEnv.sz 59=some 3:=by kernel_rfl
theorem Tryz.z59:Tryz.abEnv.zero 59=some [.int .i64 0,.int .i64 0,.int .i64 0]:=by kernel_rfl
theorem Tryz.i59:aQ xW 59=true:=by kernel_rfl
theorem Tryz.n59:ax xW 59=some false:=by kernel_rfl
theorem Tryz.p59:placesOf xW 59=some [(0,1),(1,1),(2,1)]:=by kernel_rfl
theorem Tryz.ff59(b o:Nat)(s:Option Nat):an xW 59 (.pointer (some ⟨b,o,s⟩)) 0=some (.pointer (some ⟨b,o+0,none⟩))/\an xW 59 (.pointer (some ⟨b,o,s⟩)) 1=some (.pointer (some ⟨b,o+1,none⟩))/\an xW 59 (.pointer (some ⟨b,o,s⟩)) 2=some (.pointer (some ⟨b,o+2,none⟩)):=⟨rfl,rfl,rfl⟩
theorem Tryz.d59(x0 x1 x2:Value):aq xW 59 (.agg ⟨[x0,x1,x2]⟩) 0=some x0/\aq xW 59 (.agg ⟨[x0,x1,x2]⟩) 1=some x1/\aq xW 59 (.agg ⟨[x0,x1,x2]⟩) 2=some x2:=⟨rfl,rfl,rfl⟩
theorem Tryz.e59E:dN xW 59 24 3 [.int .i64 0,.int .i64 0,.int .i64 0]:=⟨⟨_,rfl,by kernel_rfl,by kernel_rfl⟩,Tryz.z59,rfl⟩
theorem Tryz.u71:Tryz.abEnv.und 71=some (.slice 25):=by kernel_rfl
theorem Tryz.a71:Tryz.abEnv.agg 71=some false:=by kernel_rfl
theorem Tryz.s71:Tryz.abEnv.sz 71=some 1:=by kernel_rfl
theorem Tryz.z71:Tryz.abEnv.zero 71=some [.slice none 0 0]:=by kernel_rfl
theorem Tryz.q71:jn xW 71=true:=by kernel_rfl
theorem Tryz.n71:ax xW 71=some false:=by kernel_rfl
theorem Tryz.a96:Tryz.abEnv.agg 96=some true:=by kernel_rfl
theorem Tryz.s96:Tryz.abEnv.sz 96=some 4:=by kernel_rfl
theorem Tryz.z96:Tryz.abEnv.zero 96=some [.int .i64 0,.slice none 0 0,.slice none 0 0,.slice none 0 0]:=by kernel_rfl
theorem Tryz.i96:aQ xW 96=true:=by kernel_rfl
theorem Tryz.n96:ax xW 96=some false:=by kernel_rfl
theorem Tryz.p96:placesOf xW 96=some [(0,1),(1,1),(2,1),(3,1)]:=by kernel_rfl
theorem Tryz.ff96(b o:Nat)(s:Option Nat):an xW 96 (.pointer (some ⟨b,o,s⟩)) 0=some (.pointer (some ⟨b,o+0,none⟩))/\an xW 96 (.pointer (some ⟨b,o,s⟩)) 1=some (.pointer (some ⟨b,o+1,none⟩))/\an xW 96 (.pointer (some ⟨b,o,s⟩)) 2=some (.pointer (some ⟨b,o+2,none⟩))/\an xW 96 (.pointer (some ⟨b,o,s⟩)) 3=some (.pointer (some ⟨b,o+3,none⟩)):=⟨rfl,rfl,rfl,rfl⟩
theorem Tryz.d96(x0 x1 x2 x3:Value):aq xW 96 (.agg ⟨[x0,x1,x2,x3]⟩) 0=some x0/\aq xW 96 (.agg ⟨[x0,x1,x2,x3]⟩) 1=some x1/\aq xW 96 (.agg ⟨[x0,x1,x2,x3]⟩) 2=some x2/\aq xW 96 (.agg ⟨[x0,x1,x2,x3]⟩) 3=some x3:=⟨rfl,rfl,rfl,rfl⟩
theorem Tryz.u146:Tryz.abEnv.und 146=some (.slice 40):=by kernel_rfl
theorem Tryz.a146:Tryz.abEnv.agg 146=some false:=by kernel_rfl
theorem Tryz.s146:Tryz.abEnv.sz 146=some 1:=by kernel_rfl
theorem Tryz.z146:Tryz.abEnv.zero 146=some [.slice none 0 0]:=by kernel_rfl
theorem Tryz.q146:jn xW 146=true:=by kernel_rfl
theorem Tryz.n146:ax xW 146=some false:=by kernel_rfl
theorem Tryz.a148:Tryz.abEnv.agg 148=some true:=by kernel_rfl
theorem Tryz.s148:Tryz.abEnv.sz 148=some 6:=by kernel_rfl
theorem Tryz.z148:Tryz.abEnv.zero 148=some [.int .i64 0,.slice none 0 0,.slice none 0 0,.slice none 0 0,.slice none 0 0,.slice none 0 0]:=by kernel_rfl
theorem Tryz.i148:aQ xW 148=true:=by kernel_rfl
theorem Tryz.n148:ax xW 148=some false:=by kernel_rfl
theorem Tryz.p148:placesOf xW 148=some [(0,4),(4,1),(5,1)]:=by kernel_rfl
theorem Tryz.ff148(b o:Nat)(s:Option Nat):an xW 148 (.pointer (some ⟨b,o,s⟩)) 0=some (.pointer (some ⟨b,o+0,none⟩))/\an xW 148 (.pointer (some ⟨b,o,s⟩)) 1=some (.pointer (some ⟨b,o+4,none⟩))/\an xW 148 (.pointer (some ⟨b,o,s⟩)) 2=some (.pointer (some ⟨b,o+5,none⟩)):=⟨rfl,rfl,rfl⟩
theorem Tryz.d148(x0 x1 x2 x3 x4 x5:Value):aq xW 148 (.agg ⟨[x0,x1,x2,x3,x4,x5]⟩) 0=some (.agg ⟨[x0,x1,x2,x3]⟩)/\aq xW 148 (.agg ⟨[x0,x1,x2,x3,x4,x5]⟩) 1=some x4/\aq xW 148 (.agg ⟨[x0,x1,x2,x3,x4,x5]⟩) 2=some x5:=⟨rfl,rfl,rfl⟩
theorem Tryz.u197:Tryz.abEnv.und 197=some (.int .u8):=by kernel_rfl
theorem Tryz.a197:Tryz.abEnv.agg 197=some false:=by kernel_rfl
theorem Tryz.s197:Tryz.abEnv.sz 197=some 1:=by kernel_rfl
theorem Tryz.z197:Tryz.abEnv.zero 197=some [.int .u8 0]:=by kernel_rfl
theorem Tryz.i197:aQ xW 197=true:=by kernel_rfl
theorem Tryz.u263:Tryz.abEnv.und 263=some (.int .u32):=by kernel_rfl
theorem Tryz.a263:Tryz.abEnv.agg 263=some false:=by kernel_rfl
theorem Tryz.s263:Tryz.abEnv.sz 263=some 1:=by kernel_rfl
theorem Tryz.z263:Tryz.abEnv.zero 263=some [.int .u32 0]:=by kernel_rfl
theorem Tryz.i263:aQ xW 263=true:=by kernel_rfl
theorem Tryz.a274:Tryz.abEnv.agg 274=some true:=by kernel_rfl
theorem Tryz.s274:Tryz.abEnv.sz 274=some 4:=by kernel_rfl
theorem Tryz.z274:Tryz.abEnv.zero 274=some [.pointer none,.pointer none,.pointer none,.string ⟨#[]⟩]:=by kernel_rfl
theorem Tryz.i274:aQ xW 274=true:=by kernel_rfl
theorem Tryz.n274:ax xW 274=some false:=by kernel_rfl
theorem Tryz.p274:placesOf xW 274=some [(0,1),(1,1),(2,1),(3,1)]:=by kernel_rfl
theorem Tryz.ff274(b o:Nat)(s:Option Nat):an xW 274 (.pointer (some ⟨b,o,s⟩)) 0=some (.pointer (some ⟨b,o+0,none⟩))/\an xW 274 (.pointer (some ⟨b,o,s⟩)) 1=some (.pointer (some ⟨b,o+1,none⟩))/\an xW 274 (.pointer (some ⟨b,o,s⟩)) 2=some (.pointer (some ⟨b,o+2,none⟩))/\an xW 274 (.pointer (some ⟨b,o,s⟩)) 3=some (.pointer (some ⟨b,o+3,none⟩)):=⟨rfl,rfl,rfl,rfl⟩
theorem Tryz.d274(x0 x1 x2 x3:Value):aq xW 274 (.agg ⟨[x0,x1,x2,x3]⟩) 0=some x0/\aq xW 274 (.agg ⟨[x0,x1,x2,x3]⟩) 1=some x1/\aq xW 274 (.agg ⟨[x0,x1,x2,x3]⟩) 2=some x2/\aq xW 274 (.agg ⟨[x0,x1,x2,x3]⟩) 3=some x3:=⟨rfl,rfl,rfl,rfl⟩
theorem Tryz.u275:Tryz.abEnv.und 275=some (.array 0 16):=by kernel_rfl
theorem Tryz.a275:Tryz.abEnv.agg 275=some true:=by kernel_rfl
theorem Tryz.s275:Tryz.abEnv.sz 275=some 0:=by kernel_rfl
theorem Tryz.z275:Tryz.abEnv.zero 275=some []:=by kernel_rfl
theorem Tryz.n275:ax xW 275=some false:=by kernel_rfl
theorem Tryz.a277:Tryz.abEnv.agg 277=some true:=by kernel_rfl
theorem Tryz.s277:Tryz.abEnv.sz 277=some 0:=by kernel_rfl
theorem Tryz.z277:Tryz.abEnv.zero 277=some []:=by kernel_rfl
theorem Tryz.i277:aQ xW 277=true:=by kernel_rfl
theorem Tryz.n277:ax xW 277=some false:=by kernel_rfl
theorem Tryz.u279:Tryz.abEnv.und 279=some (.int .u8):=by kernel_rfl
theorem Tryz.a279:Tryz.abEnv.agg 279=some false:=by kernel_rfl
theorem Tryz.s279:Tryz.abEnv.sz 279=some 1:=by kernel_rfl
theorem Tryz.z279:Tryz.abEnv.zero 279=some [.int .u8 0]:=by kernel_rfl
theorem Tryz.i279:aQ xW 279=true:=by kernel_rfl
theorem Tryz.a280:Tryz.abEnv.agg 280=some false:=by kernel_rfl
theorem Tryz.s280:Tryz.abEnv.sz 280=some 1:=by kernel_rfl
theorem Tryz.z280:Tryz.abEnv.zero 280=some [.nilFunc]:=by kernel_rfl
theorem Tryz.n280:ax xW 280=some false:=by kernel_rfl
theorem Tryz.u281:Tryz.abEnv.und 281=some (.pointer 5):=by kernel_rfl
theorem Tryz.a281:Tryz.abEnv.agg 281=some false:=by kernel_rfl
theorem Tryz.s281:Tryz.abEnv.sz 281=some 1:=by kernel_rfl
theorem Tryz.z281:Tryz.abEnv.zero 281=some [.pointer none]:=by kernel_rfl
theorem Tryz.q281:fS xW 281=true:=by kernel_rfl
theorem Tryz.i281:aQ xW 281=true:=by kernel_rfl
theorem Tryz.n281:ax xW 281=some false:=by kernel_rfl
theorem Tryz.u282:Tryz.abEnv.und 282=some (.int .i32):=by kernel_rfl
theorem Tryz.a282:Tryz.abEnv.agg 282=some false:=by kernel_rfl
theorem Tryz.s282:Tryz.abEnv.sz 282=some 1:=by kernel_rfl
theorem Tryz.z282:Tryz.abEnv.zero 282=some [.int .i32 0]:=by kernel_rfl
theorem Tryz.i282:aQ xW 282=true:=by kernel_rfl
theorem Tryz.u283:Tryz.abEnv.und 283=some (.int .i32):=by kernel_rfl
theorem Tryz.a283:Tryz.abEnv.agg 283=some false:=by kernel_rfl
theorem Tryz.s283:Tryz.abEnv.sz 283=some 1:=by kernel_rfl
theorem Tryz.z283:Tryz.abEnv.zero 283=some [.int .i32 0]:=by kernel_rfl
theorem Tryz.i283:aQ xW 283=true:=by kernel_rfl
theorem Tryz.a285:Tryz.abEnv.agg 285=some true:=by kernel_rfl
theorem Tryz.s285:Tryz.abEnv.sz 285=some 11:=by kernel_rfl
theorem Tryz.z285:Tryz.abEnv.zero 285=some [.int .u64 0,.int .u64 0,.int .u32 0,.int .u8 0,.int .u8 0,.int .u8 0,.int .u8 0,.nilFunc,.pointer none,.int .i32 0,.int .i32 0]:=by kernel_rfl
theorem Tryz.i285:aQ xW 285=true:=by kernel_rfl
theorem Tryz.n285:ax xW 285=some false:=by kernel_rfl
theorem Tryz.p285:placesOf xW 285=some [(0,1),(1,1),(2,1),(3,1),(4,1),(5,1),(6,1),(7,1),(8,1),(9,1),(10,1)]:=by kernel_rfl
theorem Tryz.ff285(b o:Nat)(s:Option Nat):an xW 285 (.pointer (some ⟨b,o,s⟩)) 0=some (.pointer (some ⟨b,o+0,none⟩))/\an xW 285 (.pointer (some ⟨b,o,s⟩)) 1=some (.pointer (some ⟨b,o+1,none⟩))/\an xW 285 (.pointer (some ⟨b,o,s⟩)) 2=some (.pointer (some ⟨b,o+2,none⟩))/\an xW 285 (.pointer (some ⟨b,o,s⟩)) 3=some (.pointer (some ⟨b,o+3,none⟩))/\an xW 285 (.pointer (some ⟨b,o,s⟩)) 4=some (.pointer (some ⟨b,o+4,none⟩))/\an xW 285 (.pointer (some ⟨b,o,s⟩)) 5=some (.pointer (some ⟨b,o+5,none⟩))/\an xW 285 (.pointer (some ⟨b,o,s⟩)) 6=some (.pointer (some ⟨b,o+6,none⟩))/\an xW 285 (.pointer (some ⟨b,o,s⟩)) 7=some (.pointer (some ⟨b,o+7,none⟩))/\an xW 285 (.pointer (some ⟨b,o,s⟩)) 8=some (.pointer (some ⟨b,o+8,none⟩))/\an xW 285 (.pointer (some ⟨b,o,s⟩)) 9=some (.pointer (some ⟨b,o+9,none⟩))/\an xW 285 (.pointer (some ⟨b,o,s⟩)) 10=some (.pointer (some ⟨b,o+10,none⟩)):=⟨rfl,rfl,rfl,rfl,rfl,rfl,rfl,rfl,rfl,rfl,rfl⟩
theorem Tryz.d285(x0 x1 x2 x3 x4 x5 x6 x7 x8 x9 x10:Value):aq xW 285 (.agg ⟨[x0,x1,x2,x3,x4,x5,x6,x7,x8,x9,x10]⟩) 0=some x0/\aq xW 285 (.agg ⟨[x0,x1,x2,x3,x4,x5,x6,x7,x8,x9,x10]⟩) 1=some x1/\aq xW 285 (.agg ⟨[x0,x1,x2,x3,x4,x5,x6,x7,x8,x9,x10]⟩) 2=some x2/\aq xW 285 (.agg ⟨[x0,x1,x2,x3,x4,x5,x6,x7,x8,x9,x10]⟩) 3=some x3/\aq xW 285 (.agg ⟨[x0,x1,x2,x3,x4,x5,x6,x7,x8,x9,x10]⟩) 4=some x4/\aq xW 285 (.agg ⟨[x0,x1,x2,x3,x4,x5,x6,x7,x8,x9,x10]⟩) 5=some x5/\aq xW 285 (.agg ⟨[x0,x1,x2,x3,x4,x5,x6,x7,x8,x9,x10]⟩) 6=some x6/\aq xW 285 (.agg ⟨[x0,x1,x2,x3,x4,x5,x6,x7,x8,x9,x10]⟩) 7=some x7/\aq xW 285 (.agg ⟨[x0,x1,x2,x3,x4,x5,x6,x7,x8,x9,x10]⟩) 8=some x8/\aq xW 285 (.agg ⟨[x0,x1,x2,x3,x4,x5,x6,x7,x8,x9,x10]⟩) 9=some x9/\aq xW 285 (.agg ⟨[x0,x1,x2,x3,x4,x5,x6,x7,x8,x9,x10]⟩) 10=some x10:=⟨rfl,rfl,rfl,rfl,rfl,rfl,rfl,rfl,rfl,rfl,rfl⟩
theorem Tryz.u55:Tryz.abEnv.und 55=some (.slice 4):=by kernel_rfl
theorem Tryz.a55:Tryz.abEnv.agg 55=some false:=by kernel_rfl
theorem Tryz.s55:Tryz.abEnv.sz 55=some 1:=by kernel_rfl
theorem Tryz.z55:Tryz.abEnv.zero 55=some [.slice none 0 0]:=by kernel_rfl
theorem Tryz.q55:jn xW 55=true:=by kernel_rfl
theorem Tryz.n55:ax xW 55=some false:=by kernel_rfl
theorem Tryz.e4:Tryz.abEnv.fn 4=some Tryz.f4:=by kernel_rfl
theorem Tryz.a23:Tryz.abEnv.agg 23=some true:=by kernel_rfl
theorem Tryz.s23:Tryz.abEnv.sz 23=some 4:=by kernel_rfl
theorem Tryz.z23:Tryz.abEnv.zero 23=some [.int .i64 0,.int .i64 0,.int .i64 0,.int .i64 0]:=by kernel_rfl
theorem Tryz.i23:aQ xW 23=true:=by kernel_rfl
theorem Tryz.n23:ax xW 23=some false:=by kernel_rfl
theorem Tryz.p23:placesOf xW 23=some [(0,1),(1,1),(2,1),(3,1)]:=by kernel_rfl
theorem Tryz.ff23(b o:Nat)(s:Option Nat):an xW 23 (.pointer (some ⟨b,o,s⟩)) 0=some (.pointer (some ⟨b,o+0,none⟩))/\an xW 23 (.pointer (some ⟨b,o,s⟩)) 1=some (.pointer (some ⟨b,o+1,none⟩))/\an xW 23 (.pointer (some ⟨b,o,s⟩)) 2=some (.pointer (some ⟨b,o+2,none⟩))/\an xW 23 (.pointer (some ⟨b,o,s⟩)) 3=some (.pointer (some ⟨b,o+3,none⟩)):=⟨rfl,rfl,rfl,rfl⟩
theorem Tryz.d23(x0 x1 x2 x3:Value):aq xW 23 (.agg ⟨[x0,x1,x2,x3]⟩) 0=some x0/\aq xW 23 (.agg ⟨[x0,x1,x2,x3]⟩) 1=some x1/\aq xW 23 (.agg ⟨[x0,x1,x2,x3]⟩) 2=some x2/\aq xW 23 (.agg ⟨[x0,x1,x2,x3]⟩) 3=some x3:=⟨rfl,rfl,rfl,rfl⟩
theorem Tryz.u61:Tryz.abEnv.und 61=some (.pointer 63):=by kernel_rfl
theorem Tryz.a61:Tryz.abEnv.agg 61=some false:=by kernel_rfl
theorem Tryz.s61:Tryz.abEnv.sz 61=some 1:=by kernel_rfl
theorem Tryz.z61:Tryz.abEnv.zero 61=some [.pointer none]:=by kernel_rfl
theorem Tryz.q61:fS xW 61=true:=by kernel_rfl
theorem Tryz.i61:aQ xW 61=true:=by kernel_rfl
theorem Tryz.n61:ax xW 61=some false:=by kernel_rfl
theorem Tryz.a63:Tryz.abEnv.agg 63=some true:=by kernel_rfl
theorem Tryz.s63:Tryz.abEnv.sz 63=some 2:=by kernel_rfl
theorem Tryz.z63:Tryz.abEnv.zero 63=some [.slice none 0 0,.int .i64 0]:=by kernel_rfl
theorem Tryz.i63:aQ xW 63=true:=by kernel_rfl
theorem Tryz.n63:ax xW 63=some false:=by kernel_rfl
theorem Tryz.p63:placesOf xW 63=some [(0,1),(1,1)]:=by kernel_rfl
theorem Tryz.ff63(b o:Nat)(s:Option Nat):an xW 63 (.pointer (some ⟨b,o,s⟩)) 0=some (.pointer (some ⟨b,o+0,none⟩))/\an xW 63 (.pointer (some ⟨b,o,s⟩)) 1=some (.pointer (some ⟨b,o+1,none⟩)):=⟨rfl,rfl⟩
theorem Tryz.d63(x0 x1:Value):aq xW 63 (.agg ⟨[x0,x1]⟩) 0=some x0/\aq xW 63 (.agg ⟨[x0,x1]⟩) 1=some x1:=⟨rfl,rfl⟩
theorem Tryz.e6:Tryz.abEnv.fn 6=some Tryz.f6:=by kernel_rfl
theorem Tryz.e8:Tryz.abEnv.fn 8=some Tryz.f8:=by kernel_rfl
theorem Tryz.a78:Tryz.abEnv.agg 78=some true:=by kernel_rfl
theorem Tryz.s78:Tryz.abEnv.sz 78=some 4:=by kernel_rfl
theorem Tryz.z78:Tryz.abEnv.zero 78=some [.int .i64 0,.int .i64 0,.int .i64 0,.int .i64 0]:=by kernel_rfl
theorem Tryz.i78:aQ xW 78=true:=by kernel_rfl
theorem Tryz.n78:ax xW 78=some false:=by kernel_rfl
theorem Tryz.p78:placesOf xW 78=some [(0,1),(1,1),(2,1),(3,1)]:=by kernel_rfl
theorem Tryz.ff78(b o:Nat)(s:Option Nat):an xW 78 (.pointer (some ⟨b,o,s⟩)) 0=some (.pointer (some ⟨b,o+0,none⟩))/\an xW 78 (.pointer (some ⟨b,o,s⟩)) 1=some (.pointer (some ⟨b,o+1,none⟩))/\an xW 78 (.pointer (some ⟨b,o,s⟩)) 2=some (.pointer (some ⟨b,o+2,none⟩))/\an xW 78 (.pointer (some ⟨b,o,s⟩)) 3=some (.pointer (some ⟨b,o+3,none⟩)):=⟨rfl,rfl,rfl,rfl⟩
theorem Tryz.d78(x0 x1 x2 x3:Value):aq xW 78 (.agg ⟨[x0,x1,x2,x3]⟩) 0=some x0/\aq xW 78 (.agg ⟨[x0,x1,x2,x3]⟩) 1=some x1/\aq xW 78 (.agg ⟨[x0,x1,x2,x3]⟩) 2=some x2/\aq xW 78 (.agg ⟨[x0,x1,x2,x3]⟩) 3=some x3:=⟨rfl,rfl,rfl,rfl⟩
theorem Tryz.u80:Tryz.abEnv.und 80=some (.pointer 78):=by kernel_rfl
theorem Tryz.a80:Tryz.abEnv.agg 80=some false:=by kernel_rfl
theorem Tryz.s80:Tryz.abEnv.sz 80=some 1:=by kernel_rfl
theorem Tryz.z80:Tryz.abEnv.zero 80=some [.pointer none]:=by kernel_rfl
theorem Tryz.q80:fS xW 80=true:=by kernel_rfl
theorem Tryz.i80:aQ xW 80=true:=by kernel_rfl
theorem Tryz.n80:ax xW 80=some false:=by kernel_rfl
theorem Tryz.a82:Tryz.abEnv.agg 82=some true:=by kernel_rfl
theorem Tryz.s82:Tryz.abEnv.sz 82=some 1:=by kernel_rfl
theorem Tryz.z82:Tryz.abEnv.zero 82=some [.pointer none]:=by kernel_rfl
theorem Tryz.i82:aQ xW 82=true:=by kernel_rfl
theorem Tryz.n82:ax xW 82=some false:=by kernel_rfl
theorem Tryz.p82:placesOf xW 82=some [(0,1)]:=by kernel_rfl
theorem Tryz.ff82(b o:Nat)(s:Option Nat):an xW 82 (.pointer (some ⟨b,o,s⟩)) 0=some (.pointer (some ⟨b,o+0,none⟩)):=rfl
theorem Tryz.d82(x0:Value):aq xW 82 (.agg ⟨[x0]⟩) 0=some x0:=rfl
theorem Tryz.e9:Tryz.abEnv.fn 9=some Tryz.f9:=by kernel_rfl
theorem Tryz.a92:Tryz.abEnv.agg 92=some false:=by kernel_rfl
theorem Tryz.s92:Tryz.abEnv.sz 92=some 1:=by kernel_rfl
theorem Tryz.z92:Tryz.abEnv.zero 92=some [.nilFunc]:=by kernel_rfl
theorem Tryz.n92:ax xW 92=some false:=by kernel_rfl
theorem Tryz.a94:Tryz.abEnv.agg 94=some false:=by kernel_rfl
theorem Tryz.s94:Tryz.abEnv.sz 94=some 1:=by kernel_rfl
theorem Tryz.z94:Tryz.abEnv.zero 94=some [.nilFunc]:=by kernel_rfl
theorem Tryz.n94:ax xW 94=some false:=by kernel_rfl
theorem Tryz.e11:Tryz.abEnv.fn 11=some Tryz.f11:=by kernel_rfl
theorem Tryz.e12:Tryz.abEnv.fn 12=some Tryz.f12:=by kernel_rfl
theorem Tryz.u97:Tryz.abEnv.und 97=some (.int .u64):=by kernel_rfl
theorem Tryz.a97:Tryz.abEnv.agg 97=some false:=by kernel_rfl
theorem Tryz.s97:Tryz.abEnv.sz 97=some 1:=by kernel_rfl
theorem Tryz.z97:Tryz.abEnv.zero 97=some [.int .u64 0]:=by kernel_rfl
theorem Tryz.i97:aQ xW 97=true:=by kernel_rfl
theorem Tryz.e13:Tryz.abEnv.fn 13=some Tryz.f13:=by kernel_rfl
theorem Tryz.e14:Tryz.abEnv.fn 14=some Tryz.f14:=by kernel_rfl
theorem Tryz.a99:Tryz.abEnv.agg 99=some true:=by kernel_rfl
theorem Tryz.s99:Tryz.abEnv.sz 99=some 3:=by kernel_rfl
theorem Tryz.z99:Tryz.abEnv.zero 99=some [.int .i64 0,.slice none 0 0,.slice none 0 0]:=by kernel_rfl
theorem Tryz.i99:aQ xW 99=true:=by kernel_rfl
theorem Tryz.n99:ax xW 99=some false:=by kernel_rfl
theorem Tryz.p99:placesOf xW 99=some [(0,1),(1,1),(2,1)]:=by kernel_rfl
theorem Tryz.ff99(b o:Nat)(s:Option Nat):an xW 99 (.pointer (some ⟨b,o,s⟩)) 0=some (.pointer (some ⟨b,o+0,none⟩))/\an xW 99 (.pointer (some ⟨b,o,s⟩)) 1=some (.pointer (some ⟨b,o+1,none⟩))/\an xW 99 (.pointer (some ⟨b,o,s⟩)) 2=some (.pointer (some ⟨b,o+2,none⟩)):=⟨rfl,rfl,rfl⟩
theorem Tryz.d99(x0 x1 x2:Value):aq xW 99 (.agg ⟨[x0,x1,x2]⟩) 0=some x0/\aq xW 99 (.agg ⟨[x0,x1,x2]⟩) 1=some x1/\aq xW 99 (.agg ⟨[x0,x1,x2]⟩) 2=some x2:=⟨rfl,rfl,rfl⟩
theorem Tryz.a104:Tryz.abEnv.agg 104=some true:=by kernel_rfl
theorem Tryz.s104:Tryz.abEnv.sz 104=some 4:=by kernel_rfl
theorem Tryz.z104:Tryz.abEnv.zero 104=some [.int .i64 0,.int .i64 0,.slice none 0 0,.slice none 0 0]:=by kernel_rfl
theorem Tryz.i104:aQ xW 104=true:=by kernel_rfl
theorem Tryz.n104:ax xW 104=some false:=by kernel_rfl
theorem Tryz.p104:placesOf xW 104=some [(0,1),(1,1),(2,1),(3,1)]:=by kernel_rfl
theorem Tryz.ff104(b o:Nat)(s:Option Nat):an xW 104 (.pointer (some ⟨b,o,s⟩)) 0=some (.pointer (some ⟨b,o+0,none⟩))/\an xW 104 (.pointer (some ⟨b,o,s⟩)) 1=some (.pointer (some ⟨b,o+1,none⟩))/\an xW 104 (.pointer (some ⟨b,o,s⟩)) 2=some (.pointer (some ⟨b,o+2,none⟩))/\an xW 104 (.pointer (some ⟨b,o,s⟩)) 3=some (.pointer (some ⟨b,o+3,none⟩)):=⟨rfl,rfl,rfl,rfl⟩
theorem Tryz.d104(x0 x1 x2 x3:Value):aq xW 104 (.agg ⟨[x0,x1,x2,x3]⟩) 0=some x0/\aq xW 104 (.agg ⟨[x0,x1,x2,x3]⟩) 1=some x1/\aq xW 104 (.agg ⟨[x0,x1,x2,x3]⟩) 2=some x2/\aq xW 104 (.agg ⟨[x0,x1,x2,x3]⟩) 3=some x3:=⟨rfl,rfl,rfl,rfl⟩
theorem Tryz.e15:Tryz.abEnv.fn 15=some Tryz.f15:=by kernel_rfl
theorem Tryz.a111:Tryz.abEnv.agg 111=some false:=by kernel_rfl
theorem Tryz.s111:Tryz.abEnv.sz 111=some 1:=by kernel_rfl
theorem Tryz.z111:Tryz.abEnv.zero 111=some [.nilFunc]:=by kernel_rfl
theorem Tryz.n111:ax xW 111=some false:=by kernel_rfl
theorem Tryz.e18:Tryz.abEnv.fn 18=some Tryz.f18:=by kernel_rfl
theorem Tryz.e19:Tryz.abEnv.fn 19=some Tryz.f19:=by kernel_rfl
theorem Tryz.e20:Tryz.abEnv.fn 20=some Tryz.f20:=by kernel_rfl
theorem Tryz.a37:Tryz.abEnv.agg 37=some false:=by kernel_rfl
theorem Tryz.s37:Tryz.abEnv.sz 37=some 1:=by kernel_rfl
theorem Tryz.z37:Tryz.abEnv.zero 37=some [.nilFunc]:=by kernel_rfl
theorem Tryz.n37:ax xW 37=some false:=by kernel_rfl
theorem Tryz.a114:Tryz.abEnv.agg 114=some false:=by kernel_rfl
theorem Tryz.s114:Tryz.abEnv.sz 114=some 1:=by kernel_rfl
theorem Tryz.z114:Tryz.abEnv.zero 114=some [.nilFunc]:=by kernel_rfl
theorem Tryz.n114:ax xW 114=some false:=by kernel_rfl
theorem Tryz.a117:Tryz.abEnv.agg 117=some true:=by kernel_rfl
theorem Tryz.s117:Tryz.abEnv.sz 117=some 2:=by kernel_rfl
theorem Tryz.z117:Tryz.abEnv.zero 117=some [.nilFunc,.int .i64 0]:=by kernel_rfl
theorem Tryz.i117:aQ xW 117=true:=by kernel_rfl
theorem Tryz.n117:ax xW 117=some false:=by kernel_rfl
theorem Tryz.p117:placesOf xW 117=some [(0,1),(1,1)]:=by kernel_rfl
theorem Tryz.ff117(b o:Nat)(s:Option Nat):an xW 117 (.pointer (some ⟨b,o,s⟩)) 0=some (.pointer (some ⟨b,o+0,none⟩))/\an xW 117 (.pointer (some ⟨b,o,s⟩)) 1=some (.pointer (some ⟨b,o+1,none⟩)):=⟨rfl,rfl⟩
theorem Tryz.d117(x0 x1:Value):aq xW 117 (.agg ⟨[x0,x1]⟩) 0=some x0/\aq xW 117 (.agg ⟨[x0,x1]⟩) 1=some x1:=⟨rfl,rfl⟩
theorem Tryz.e117E:dN xW 117 16 2 [.nilFunc,.int .i64 0]:=⟨⟨_,rfl,by kernel_rfl,by kernel_rfl⟩,Tryz.z117,rfl⟩
theorem Tryz.u173:Tryz.abEnv.und 173=some (.slice 117):=by kernel_rfl
theorem Tryz.a173:Tryz.abEnv.agg 173=some false:=by kernel_rfl
theorem Tryz.s173:Tryz.abEnv.sz 173=some 1:=by kernel_rfl
theorem Tryz.z173:Tryz.abEnv.zero 173=some [.slice none 0 0]:=by kernel_rfl
theorem Tryz.q173:jn xW 173=true:=by kernel_rfl
theorem Tryz.n173:ax xW 173=some false:=by kernel_rfl
theorem Tryz.e22:Tryz.abEnv.fn 22=some Tryz.f22:=by kernel_rfl
theorem Tryz.a120:Tryz.abEnv.agg 120=some false:=by kernel_rfl
theorem Tryz.s120:Tryz.abEnv.sz 120=some 1:=by kernel_rfl
theorem Tryz.z120:Tryz.abEnv.zero 120=some [.nilFunc]:=by kernel_rfl
theorem Tryz.n120:ax xW 120=some false:=by kernel_rfl
theorem Tryz.a122:Tryz.abEnv.agg 122=some false:=by kernel_rfl
theorem Tryz.s122:Tryz.abEnv.sz 122=some 1:=by kernel_rfl
theorem Tryz.z122:Tryz.abEnv.zero 122=some [.nilFunc]:=by kernel_rfl
theorem Tryz.n122:ax xW 122=some false:=by kernel_rfl
theorem Tryz.e23:Tryz.abEnv.fn 23=some Tryz.f23:=by kernel_rfl
theorem Tryz.e24:Tryz.abEnv.fn 24=some Tryz.f24:=by kernel_rfl
theorem Tryz.a124:Tryz.abEnv.agg 124=some false:=by kernel_rfl
theorem Tryz.s124:Tryz.abEnv.sz 124=some 1:=by kernel_rfl
theorem Tryz.z124:Tryz.abEnv.zero 124=some [.nilFunc]:=by kernel_rfl
theorem Tryz.n124:ax xW 124=some false:=by kernel_rfl
theorem Tryz.e25:Tryz.abEnv.fn 25=some Tryz.f25:=by kernel_rfl
theorem Tryz.a127:Tryz.abEnv.agg 127=some false:=by kernel_rfl
theorem Tryz.s127:Tryz.abEnv.sz 127=some 1:=by kernel_rfl
theorem Tryz.z127:Tryz.abEnv.zero 127=some [.nilFunc]:=by kernel_rfl
theorem Tryz.n127:ax xW 127=some false:=by kernel_rfl
theorem Tryz.e30:Tryz.abEnv.fn 30=some Tryz.f30:=by kernel_rfl
theorem Tryz.a149:Tryz.abEnv.agg 149=some false:=by kernel_rfl
theorem Tryz.s149:Tryz.abEnv.sz 149=some 1:=by kernel_rfl
theorem Tryz.z149:Tryz.abEnv.zero 149=some [.nilFunc]:=by kernel_rfl
theorem Tryz.n149:ax xW 149=some false:=by kernel_rfl
theorem Tryz.a150:Tryz.abEnv.agg 150=some false:=by kernel_rfl
theorem Tryz.s150:Tryz.abEnv.sz 150=some 1:=by kernel_rfl
theorem Tryz.z150:Tryz.abEnv.zero 150=some [.nilFunc]:=by kernel_rfl
theorem Tryz.n150:ax xW 150=some false:=by kernel_rfl
theorem Tryz.e32:Tryz.abEnv.fn 32=some Tryz.f32:=by kernel_rfl
theorem Tryz.e33:Tryz.abEnv.fn 33=some Tryz.f33:=by kernel_rfl
theorem Tryz.u153:Tryz.abEnv.und 153=some (.map 3 3):=by kernel_rfl
theorem Tryz.a153:Tryz.abEnv.agg 153=some false:=by kernel_rfl
theorem Tryz.s153:Tryz.abEnv.sz 153=some 1:=by kernel_rfl
theorem Tryz.z153:Tryz.abEnv.zero 153=some [.map none]:=by kernel_rfl
theorem Tryz.n153:ax xW 153=some false:=by kernel_rfl
theorem Tryz.a154:Tryz.abEnv.agg 154=some false:=by kernel_rfl
theorem Tryz.s154:Tryz.abEnv.sz 154=some 1:=by kernel_rfl
theorem Tryz.z154:Tryz.abEnv.zero 154=some [.nilFunc]:=by kernel_rfl
theorem Tryz.n154:ax xW 154=some false:=by kernel_rfl
theorem Tryz.e36:Tryz.abEnv.fn 36=some Tryz.f36:=by kernel_rfl
theorem Tryz.e37:Tryz.abEnv.fn 37=some Tryz.f37:=by kernel_rfl
theorem Tryz.e38:Tryz.abEnv.fn 38=some Tryz.f38:=by kernel_rfl
theorem Tryz.e39:Tryz.abEnv.fn 39=some Tryz.f39:=by kernel_rfl
theorem Tryz.e40:Tryz.abEnv.fn 40=some Tryz.f40:=by kernel_rfl
theorem Tryz.a41:Tryz.abEnv.agg 41=some false:=by kernel_rfl
theorem Tryz.s41:Tryz.abEnv.sz 41=some 1:=by kernel_rfl
theorem Tryz.z41:Tryz.abEnv.zero 41=some [.nilFunc]:=by kernel_rfl
theorem Tryz.n41:ax xW 41=some false:=by kernel_rfl
theorem Tryz.a158:Tryz.abEnv.agg 158=some true:=by kernel_rfl
theorem Tryz.s158:Tryz.abEnv.sz 158=some 3:=by kernel_rfl
theorem Tryz.z158:Tryz.abEnv.zero 158=some [.slice none 0 0,.slice none 0 0,.slice none 0 0]:=by kernel_rfl
theorem Tryz.i158:aQ xW 158=true:=by kernel_rfl
theorem Tryz.n158:ax xW 158=some false:=by kernel_rfl
theorem Tryz.p158:placesOf xW 158=some [(0,1),(1,1),(2,1)]:=by kernel_rfl
theorem Tryz.ff158(b o:Nat)(s:Option Nat):an xW 158 (.pointer (some ⟨b,o,s⟩)) 0=some (.pointer (some ⟨b,o+0,none⟩))/\an xW 158 (.pointer (some ⟨b,o,s⟩)) 1=some (.pointer (some ⟨b,o+1,none⟩))/\an xW 158 (.pointer (some ⟨b,o,s⟩)) 2=some (.pointer (some ⟨b,o+2,none⟩)):=⟨rfl,rfl,rfl⟩
theorem Tryz.d158(x0 x1 x2:Value):aq xW 158 (.agg ⟨[x0,x1,x2]⟩) 0=some x0/\aq xW 158 (.agg ⟨[x0,x1,x2]⟩) 1=some x1/\aq xW 158 (.agg ⟨[x0,x1,x2]⟩) 2=some x2:=⟨rfl,rfl,rfl⟩
theorem Tryz.e41:Tryz.abEnv.fn 41=some Tryz.f41:=by kernel_rfl
theorem Tryz.e42:Tryz.abEnv.fn 42=some Tryz.f42:=by kernel_rfl
theorem Tryz.u162:Tryz.abEnv.und 162=some (.pointer 218):=by kernel_rfl
theorem Tryz.a162:Tryz.abEnv.agg 162=some false:=by kernel_rfl
theorem Tryz.s162:Tryz.abEnv.sz 162=some 1:=by kernel_rfl
theorem Tryz.z162:Tryz.abEnv.zero 162=some [.pointer none]:=by kernel_rfl
theorem Tryz.q162:fS xW 162=true:=by kernel_rfl
theorem Tryz.i162:aQ xW 162=true:=by kernel_rfl
theorem Tryz.n162:ax xW 162=some false:=by kernel_rfl
theorem Tryz.a169:Tryz.abEnv.agg 169=some false:=by kernel_rfl
theorem Tryz.s169:Tryz.abEnv.sz 169=some 1:=by kernel_rfl
theorem Tryz.z169:Tryz.abEnv.zero 169=some [.nilFunc]:=by kernel_rfl
theorem Tryz.n169:ax xW 169=some false:=by kernel_rfl
theorem Tryz.u203:Tryz.abEnv.und 203=some (.pointer 250):=by kernel_rfl
theorem Tryz.a203:Tryz.abEnv.agg 203=some false:=by kernel_rfl
theorem Tryz.s203:Tryz.abEnv.sz 203=some 1:=by kernel_rfl
theorem Tryz.z203:Tryz.abEnv.zero 203=some [.pointer none]:=by kernel_rfl
theorem Tryz.q203:fS xW 203=true:=by kernel_rfl
theorem Tryz.i203:aQ xW 203=true:=by kernel_rfl
theorem Tryz.n203:ax xW 203=some false:=by kernel_rfl
theorem Tryz.a218:Tryz.abEnv.agg 218=some true:=by kernel_rfl
theorem Tryz.s218:Tryz.abEnv.sz 218=some 8:=by kernel_rfl
theorem Tryz.z218:Tryz.abEnv.zero 218=some [.pointer none,.pointer none,.slice none 0 0,.slice none 0 0,.slice none 0 0,.nilFunc,.nilFunc,.slice none 0 0]:=by kernel_rfl
theorem Tryz.i218:aQ xW 218=true:=by kernel_rfl
theorem Tryz.n218:ax xW 218=some false:=by kernel_rfl
theorem Tryz.p218:placesOf xW 218=some [(0,1),(1,1),(2,1),(3,1),(4,1),(5,1),(6,1),(7,1)]:=by kernel_rfl
theorem Tryz.ff218(b o:Nat)(s:Option Nat):an xW 218 (.pointer (some ⟨b,o,s⟩)) 0=some (.pointer (some ⟨b,o+0,none⟩))/\an xW 218 (.pointer (some ⟨b,o,s⟩)) 1=some (.pointer (some ⟨b,o+1,none⟩))/\an xW 218 (.pointer (some ⟨b,o,s⟩)) 2=some (.pointer (some ⟨b,o+2,none⟩))/\an xW 218 (.pointer (some ⟨b,o,s⟩)) 3=some (.pointer (some ⟨b,o+3,none⟩))/\an xW 218 (.pointer (some ⟨b,o,s⟩)) 4=some (.pointer (some ⟨b,o+4,none⟩))/\an xW 218 (.pointer (some ⟨b,o,s⟩)) 5=some (.pointer (some ⟨b,o+5,none⟩))/\an xW 218 (.pointer (some ⟨b,o,s⟩)) 6=some (.pointer (some ⟨b,o+6,none⟩))/\an xW 218 (.pointer (some ⟨b,o,s⟩)) 7=some (.pointer (some ⟨b,o+7,none⟩)):=⟨rfl,rfl,rfl,rfl,rfl,rfl,rfl,rfl⟩
theorem Tryz.d218(x0 x1 x2 x3 x4 x5 x6 x7:Value):aq xW 218 (.agg ⟨[x0,x1,x2,x3,x4,x5,x6,x7]⟩) 0=some x0/\aq xW 218 (.agg ⟨[x0,x1,x2,x3,x4,x5,x6,x7]⟩) 1=some x1/\aq xW 218 (.agg ⟨[x0,x1,x2,x3,x4,x5,x6,x7]⟩) 2=some x2/\aq xW 218 (.agg ⟨[x0,x1,x2,x3,x4,x5,x6,x7]⟩) 3=some x3/\aq xW 218 (.agg ⟨[x0,x1,x2,x3,x4,x5,x6,x7]⟩) 4=some x4/\aq xW 218 (.agg ⟨[x0,x1,x2,x3,x4,x5,x6,x7]⟩) 5=some x5/\aq xW 218 (.agg ⟨[x0,x1,x2,x3,x4,x5,x6,x7]⟩) 6=some x6/\aq xW 218 (.agg ⟨[x0,x1,x2,x3,x4,x5,x6,x7]⟩) 7=some x7:=⟨rfl,rfl,rfl,rfl,rfl,rfl,rfl,rfl⟩
theorem Tryz.e43:Tryz.abEnv.fn 43=some Tryz.f43:=by kernel_rfl
theorem Tryz.a167:Tryz.abEnv.agg 167=some false:=by kernel_rfl
theorem Tryz.s167:Tryz.abEnv.sz 167=some 1:=by kernel_rfl
theorem Tryz.z167:Tryz.abEnv.zero 167=some [.nilFunc]:=by kernel_rfl
theorem Tryz.n167:ax xW 167=some false:=by kernel_rfl
theorem Tryz.e44:Tryz.abEnv.fn 44=some Tryz.f44:=by kernel_rfl
theorem Tryz.e46:Tryz.abEnv.fn 46=some Tryz.f46:=by kernel_rfl
theorem Tryz.e47:Tryz.abEnv.fn 47=some Tryz.f47:=by kernel_rfl
theorem Tryz.e48:Tryz.abEnv.fn 48=some Tryz.f48:=by kernel_rfl
theorem Tryz.e49:Tryz.abEnv.fn 49=some Tryz.f49:=by kernel_rfl
theorem Tryz.a70:Tryz.abEnv.agg 70=some false:=by kernel_rfl
theorem Tryz.s70:Tryz.abEnv.sz 70=some 1:=by kernel_rfl
theorem Tryz.z70:Tryz.abEnv.zero 70=some [.nilFunc]:=by kernel_rfl
theorem Tryz.n70:ax xW 70=some false:=by kernel_rfl
theorem Tryz.a172:Tryz.abEnv.agg 172=some false:=by kernel_rfl
theorem Tryz.s172:Tryz.abEnv.sz 172=some 1:=by kernel_rfl
theorem Tryz.z172:Tryz.abEnv.zero 172=some [.nilFunc]:=by kernel_rfl
theorem Tryz.n172:ax xW 172=some false:=by kernel_rfl
theorem Tryz.e50:Tryz.abEnv.fn 50=some Tryz.f50:=by kernel_rfl
theorem Tryz.e51:Tryz.abEnv.fn 51=some Tryz.f51:=by kernel_rfl
theorem Tryz.e52:Tryz.abEnv.fn 52=some Tryz.f52:=by kernel_rfl
theorem Tryz.e53:Tryz.abEnv.fn 53=some Tryz.f53:=by kernel_rfl
theorem Tryz.e54:Tryz.abEnv.fn 54=some Tryz.f54:=by kernel_rfl
theorem Tryz.e55:Tryz.abEnv.fn 55=some Tryz.f55:=by kernel_rfl
theorem Tryz.e56:Tryz.abEnv.fn 56=some Tryz.f56:=by kernel_rfl
theorem Tryz.e57:Tryz.abEnv.fn 57=some Tryz.f57:=by kernel_rfl
theorem Tryz.e58:Tryz.abEnv.fn 58=some Tryz.f58:=by kernel_rfl
theorem Tryz.e59:Tryz.abEnv.fn 59=some Tryz.f59:=by kernel_rfl
theorem Tryz.e60:Tryz.abEnv.fn 60=some Tryz.f60:=by kernel_rfl
theorem Tryz.e61:Tryz.abEnv.fn 61=some Tryz.f61:=by kernel_rfl
theorem Tryz.e62:Tryz.abEnv.fn 62=some Tryz.f62:=by kernel_rfl
theorem Tryz.e63:Tryz.abEnv.fn 63=some Tryz.f63:=by kernel_rfl
theorem Tryz.a126:Tryz.abEnv.agg 126=some false:=by kernel_rfl
theorem Tryz.s126:Tryz.abEnv.sz 126=some 1:=by kernel_rfl
theorem Tryz.z126:Tryz.abEnv.zero 126=some [.nilFunc]:=by kernel_rfl
theorem Tryz.n126:ax xW 126=some false:=by kernel_rfl
theorem Tryz.a140:Tryz.abEnv.agg 140=some true:=by kernel_rfl
theorem Tryz.s140:Tryz.abEnv.sz 140=some 1:=by kernel_rfl
theorem Tryz.z140:Tryz.abEnv.zero 140=some [.pointer none]:=by kernel_rfl
theorem Tryz.i140:aQ xW 140=true:=by kernel_rfl
theorem Tryz.n140:ax xW 140=some false:=by kernel_rfl
theorem Tryz.p140:placesOf xW 140=some [(0,1)]:=by kernel_rfl
theorem Tryz.ff140(b o:Nat)(s:Option Nat):an xW 140 (.pointer (some ⟨b,o,s⟩)) 0=some (.pointer (some ⟨b,o+0,none⟩)):=rfl
theorem Tryz.d140(x0:Value):aq xW 140 (.agg ⟨[x0]⟩) 0=some x0:=rfl
theorem Tryz.e75:Tryz.abEnv.fn 75=some Tryz.f75:=by kernel_rfl
theorem Tryz.a182:Tryz.abEnv.agg 182=some false:=by kernel_rfl
theorem Tryz.s182:Tryz.abEnv.sz 182=some 1:=by kernel_rfl
theorem Tryz.z182:Tryz.abEnv.zero 182=some [.nilFunc]:=by kernel_rfl
theorem Tryz.n182:ax xW 182=some false:=by kernel_rfl
theorem Tryz.a184:Tryz.abEnv.agg 184=some false:=by kernel_rfl
theorem Tryz.s184:Tryz.abEnv.sz 184=some 1:=by kernel_rfl
theorem Tryz.z184:Tryz.abEnv.zero 184=some [.nilFunc]:=by kernel_rfl
theorem Tryz.n184:ax xW 184=some false:=by kernel_rfl
theorem Tryz.e184E:dN xW 184 8 1 [.nilFunc]:=⟨⟨_,rfl,by kernel_rfl,by kernel_rfl⟩,Tryz.z184,rfl⟩
theorem Tryz.u186:Tryz.abEnv.und 186=some (.slice 184):=by kernel_rfl
theorem Tryz.a186:Tryz.abEnv.agg 186=some false:=by kernel_rfl
theorem Tryz.s186:Tryz.abEnv.sz 186=some 1:=by kernel_rfl
theorem Tryz.z186:Tryz.abEnv.zero 186=some [.slice none 0 0]:=by kernel_rfl
theorem Tryz.q186:jn xW 186=true:=by kernel_rfl
theorem Tryz.n186:ax xW 186=some false:=by kernel_rfl
theorem Tryz.a188:Tryz.abEnv.agg 188=some true:=by kernel_rfl
theorem Tryz.s188:Tryz.abEnv.sz 188=some 6:=by kernel_rfl
theorem Tryz.z188:Tryz.abEnv.zero 188=some [.int .i64 0,.int .i64 0,.int .i64 0,.int .i64 0,.int .i64 0,.int .i64 0]:=by kernel_rfl
theorem Tryz.i188:aQ xW 188=true:=by kernel_rfl
theorem Tryz.n188:ax xW 188=some false:=by kernel_rfl
theorem Tryz.p188:placesOf xW 188=some [(0,1),(1,1),(2,1),(3,1),(4,1),(5,1)]:=by kernel_rfl
theorem Tryz.ff188(b o:Nat)(s:Option Nat):an xW 188 (.pointer (some ⟨b,o,s⟩)) 0=some (.pointer (some ⟨b,o+0,none⟩))/\an xW 188 (.pointer (some ⟨b,o,s⟩)) 1=some (.pointer (some ⟨b,o+1,none⟩))/\an xW 188 (.pointer (some ⟨b,o,s⟩)) 2=some (.pointer (some ⟨b,o+2,none⟩))/\an xW 188 (.pointer (some ⟨b,o,s⟩)) 3=some (.pointer (some ⟨b,o+3,none⟩))/\an xW 188 (.pointer (some ⟨b,o,s⟩)) 4=some (.pointer (some ⟨b,o+4,none⟩))/\an xW 188 (.pointer (some ⟨b,o,s⟩)) 5=some (.pointer (some ⟨b,o+5,none⟩)):=⟨rfl,rfl,rfl,rfl,rfl,rfl⟩
theorem Tryz.d188(x0 x1 x2 x3 x4 x5:Value):aq xW 188 (.agg ⟨[x0,x1,x2,x3,x4,x5]⟩) 0=some x0/\aq xW 188 (.agg ⟨[x0,x1,x2,x3,x4,x5]⟩) 1=some x1/\aq xW 188 (.agg ⟨[x0,x1,x2,x3,x4,x5]⟩) 2=some x2/\aq xW 188 (.agg ⟨[x0,x1,x2,x3,x4,x5]⟩) 3=some x3/\aq xW 188 (.agg ⟨[x0,x1,x2,x3,x4,x5]⟩) 4=some x4/\aq xW 188 (.agg ⟨[x0,x1,x2,x3,x4,x5]⟩) 5=some x5:=⟨rfl,rfl,rfl,rfl,rfl,rfl⟩
theorem Tryz.e188E:dN xW 188 48 6 [.int .i64 0,.int .i64 0,.int .i64 0,.int .i64 0,.int .i64 0,.int .i64 0]:=⟨⟨_,rfl,by kernel_rfl,by kernel_rfl⟩,Tryz.z188,rfl⟩
theorem Tryz.e76:Tryz.abEnv.fn 76=some Tryz.f76:=by kernel_rfl
theorem Tryz.e78:Tryz.abEnv.fn 78=some Tryz.f78:=by kernel_rfl
theorem Tryz.e79:Tryz.abEnv.fn 79=some Tryz.f79:=by kernel_rfl
theorem Tryz.e80:Tryz.abEnv.fn 80=some Tryz.f80:=by kernel_rfl
theorem Tryz.e81:Tryz.abEnv.fn 81=some Tryz.f81:=by kernel_rfl
theorem Tryz.e82:Tryz.abEnv.fn 82=some Tryz.f82:=by kernel_rfl
theorem Tryz.e83:Tryz.abEnv.fn 83=some Tryz.f83:=by kernel_rfl
theorem Tryz.e84:Tryz.abEnv.fn 84=some Tryz.f84:=by kernel_rfl
theorem Tryz.e85:Tryz.abEnv.fn 85=some Tryz.f85:=by kernel_rfl
theorem Tryz.e86:Tryz.abEnv.fn 86=some Tryz.f86:=by kernel_rfl
theorem Tryz.a101:Tryz.abEnv.agg 101=some false:=by kernel_rfl
theorem Tryz.s101:Tryz.abEnv.sz 101=some 1:=by kernel_rfl
theorem Tryz.z101:Tryz.abEnv.zero 101=some [.nilFunc]:=by kernel_rfl
theorem Tryz.n101:ax xW 101=some false:=by kernel_rfl
theorem Tryz.a102:Tryz.abEnv.agg 102=some false:=by kernel_rfl
theorem Tryz.s102:Tryz.abEnv.sz 102=some 1:=by kernel_rfl
theorem Tryz.z102:Tryz.abEnv.zero 102=some [.nilFunc]:=by kernel_rfl
theorem Tryz.n102:ax xW 102=some false:=by kernel_rfl
theorem Tryz.u202:Tryz.abEnv.und 202=some (.pointer 208):=by kernel_rfl
theorem Tryz.a202:Tryz.abEnv.agg 202=some false:=by kernel_rfl
theorem Tryz.s202:Tryz.abEnv.sz 202=some 1:=by kernel_rfl
theorem Tryz.z202:Tryz.abEnv.zero 202=some [.pointer none]:=by kernel_rfl
theorem Tryz.q202:fS xW 202=true:=by kernel_rfl
theorem Tryz.i202:aQ xW 202=true:=by kernel_rfl
theorem Tryz.n202:ax xW 202=some false:=by kernel_rfl
theorem Tryz.a208:Tryz.abEnv.agg 208=some true:=by kernel_rfl
theorem Tryz.s208:Tryz.abEnv.sz 208=some 5:=by kernel_rfl
theorem Tryz.z208:Tryz.abEnv.zero 208=some [.pointer none,.slice none 0 0,.slice none 0 0,.slice none 0 0,.map none]:=by kernel_rfl
theorem Tryz.i208:aQ xW 208=true:=by kernel_rfl
theorem Tryz.n208:ax xW 208=some false:=by kernel_rfl
theorem Tryz.p208:placesOf xW 208=some [(0,1),(1,3),(4,1)]:=by kernel_rfl
theorem Tryz.ff208(b o:Nat)(s:Option Nat):an xW 208 (.pointer (some ⟨b,o,s⟩)) 0=some (.pointer (some ⟨b,o+0,none⟩))/\an xW 208 (.pointer (some ⟨b,o,s⟩)) 1=some (.pointer (some ⟨b,o+1,none⟩))/\an xW 208 (.pointer (some ⟨b,o,s⟩)) 2=some (.pointer (some ⟨b,o+4,none⟩)):=⟨rfl,rfl,rfl⟩
theorem Tryz.d208(x0 x1 x2 x3 x4:Value):aq xW 208 (.agg ⟨[x0,x1,x2,x3,x4]⟩) 0=some x0/\aq xW 208 (.agg ⟨[x0,x1,x2,x3,x4]⟩) 1=some (.agg ⟨[x1,x2,x3]⟩)/\aq xW 208 (.agg ⟨[x0,x1,x2,x3,x4]⟩) 2=some x4:=⟨rfl,rfl,rfl⟩
theorem Tryz.a213:Tryz.abEnv.agg 213=some false:=by kernel_rfl
theorem Tryz.s213:Tryz.abEnv.sz 213=some 1:=by kernel_rfl
theorem Tryz.z213:Tryz.abEnv.zero 213=some [.nilFunc]:=by kernel_rfl
theorem Tryz.n213:ax xW 213=some false:=by kernel_rfl
theorem Tryz.a248:Tryz.abEnv.agg 248=some true:=by kernel_rfl
theorem Tryz.s248:Tryz.abEnv.sz 248=some 2:=by kernel_rfl
theorem Tryz.z248:Tryz.abEnv.zero 248=some [.slice none 0 0,.map none]:=by kernel_rfl
theorem Tryz.i248:aQ xW 248=true:=by kernel_rfl
theorem Tryz.n248:ax xW 248=some false:=by kernel_rfl
theorem Tryz.p248:placesOf xW 248=some [(0,1),(1,1)]:=by kernel_rfl
theorem Tryz.ff248(b o:Nat)(s:Option Nat):an xW 248 (.pointer (some ⟨b,o,s⟩)) 0=some (.pointer (some ⟨b,o+0,none⟩))/\an xW 248 (.pointer (some ⟨b,o,s⟩)) 1=some (.pointer (some ⟨b,o+1,none⟩)):=⟨rfl,rfl⟩
theorem Tryz.d248(x0 x1:Value):aq xW 248 (.agg ⟨[x0,x1]⟩) 0=some x0/\aq xW 248 (.agg ⟨[x0,x1]⟩) 1=some x1:=⟨rfl,rfl⟩
theorem Tryz.a250:Tryz.abEnv.agg 250=some true:=by kernel_rfl
theorem Tryz.s250:Tryz.abEnv.sz 250=some 3:=by kernel_rfl
theorem Tryz.z250:Tryz.abEnv.zero 250=some [.slice none 0 0,.map none,.int .i64 0]:=by kernel_rfl
theorem Tryz.i250:aQ xW 250=true:=by kernel_rfl
theorem Tryz.n250:ax xW 250=some false:=by kernel_rfl
theorem Tryz.p250:placesOf xW 250=some [(0,2),(2,1)]:=by kernel_rfl
theorem Tryz.ff250(b o:Nat)(s:Option Nat):an xW 250 (.pointer (some ⟨b,o,s⟩)) 0=some (.pointer (some ⟨b,o+0,none⟩))/\an xW 250 (.pointer (some ⟨b,o,s⟩)) 1=some (.pointer (some ⟨b,o+2,none⟩)):=⟨rfl,rfl⟩
theorem Tryz.d250(x0 x1 x2:Value):aq xW 250 (.agg ⟨[x0,x1,x2]⟩) 0=some (.agg ⟨[x0,x1]⟩)/\aq xW 250 (.agg ⟨[x0,x1,x2]⟩) 1=some x2:=⟨rfl,rfl⟩
theorem Tryz.e87:Tryz.abEnv.fn 87=some Tryz.f87:=by kernel_rfl
theorem Tryz.e88:Tryz.abEnv.fn 88=some Tryz.f88:=by kernel_rfl
theorem Tryz.e89:Tryz.abEnv.fn 89=some Tryz.f89:=by kernel_rfl
theorem Tryz.e90:Tryz.abEnv.fn 90=some Tryz.f90:=by kernel_rfl
theorem Tryz.e91:Tryz.abEnv.fn 91=some Tryz.f91:=by kernel_rfl
theorem Tryz.e92:Tryz.abEnv.fn 92=some Tryz.f92:=by kernel_rfl
theorem Tryz.e93:Tryz.abEnv.fn 93=some Tryz.f93:=by kernel_rfl
theorem Tryz.e94:Tryz.abEnv.fn 94=some Tryz.f94:=by kernel_rfl
theorem Tryz.e95:Tryz.abEnv.fn 95=some Tryz.f95:=by kernel_rfl
theorem Tryz.e96:Tryz.abEnv.fn 96=some Tryz.f96:=by kernel_rfl
theorem Tryz.a222:Tryz.abEnv.agg 222=some false:=by kernel_rfl
theorem Tryz.s222:Tryz.abEnv.sz 222=some 1:=by kernel_rfl
theorem Tryz.z222:Tryz.abEnv.zero 222=some [.nilFunc]:=by kernel_rfl
theorem Tryz.n222:ax xW 222=some false:=by kernel_rfl
theorem Tryz.e97:Tryz.abEnv.fn 97=some Tryz.f97:=by kernel_rfl
theorem Tryz.e98:Tryz.abEnv.fn 98=some Tryz.f98:=by kernel_rfl
theorem Tryz.e99:Tryz.abEnv.fn 99=some Tryz.f99:=by kernel_rfl
theorem Tryz.e100:Tryz.abEnv.fn 100=some Tryz.f100:=by kernel_rfl
theorem Tryz.e101:Tryz.abEnv.fn 101=some Tryz.f101:=by kernel_rfl
theorem Tryz.e102:Tryz.abEnv.fn 102=some Tryz.f102:=by kernel_rfl
theorem Tryz.e103:Tryz.abEnv.fn 103=some Tryz.f103:=by kernel_rfl
theorem Tryz.e104:Tryz.abEnv.fn 104=some Tryz.f104:=by kernel_rfl
theorem Tryz.e105:Tryz.abEnv.fn 105=some Tryz.f105:=by kernel_rfl
theorem Tryz.e106:Tryz.abEnv.fn 106=some Tryz.f106:=by kernel_rfl
theorem Tryz.a174:Tryz.abEnv.agg 174=some false:=by kernel_rfl
theorem Tryz.s174:Tryz.abEnv.sz 174=some 1:=by kernel_rfl
theorem Tryz.z174:Tryz.abEnv.zero 174=some [.nilFunc]:=by kernel_rfl
theorem Tryz.n174:ax xW 174=some false:=by kernel_rfl
theorem Tryz.e107:Tryz.abEnv.fn 107=some Tryz.f107:=by kernel_rfl
theorem Tryz.e111:Tryz.abEnv.fn 111=some Tryz.f111:=by kernel_rfl
theorem Tryz.e114:Tryz.abEnv.fn 114=some Tryz.f114:=by kernel_rfl
theorem Tryz.u230:Tryz.abEnv.und 230=some (.slice 188):=by kernel_rfl
theorem Tryz.a230:Tryz.abEnv.agg 230=some false:=by kernel_rfl
theorem Tryz.s230:Tryz.abEnv.sz 230=some 1:=by kernel_rfl
theorem Tryz.z230:Tryz.abEnv.zero 230=some [.slice none 0 0]:=by kernel_rfl
theorem Tryz.q230:jn xW 230=true:=by kernel_rfl
theorem Tryz.n230:ax xW 230=some false:=by kernel_rfl
theorem Tryz.e115:Tryz.abEnv.fn 115=some Tryz.f115:=by kernel_rfl
theorem Tryz.e116:Tryz.abEnv.fn 116=some Tryz.f116:=by kernel_rfl
theorem Tryz.e117:Tryz.abEnv.fn 117=some Tryz.f117:=by kernel_rfl
theorem Tryz.e118:Tryz.abEnv.fn 118=some Tryz.f118:=by kernel_rfl
theorem Tryz.e119:Tryz.abEnv.fn 119=some Tryz.f119:=by kernel_rfl
theorem Tryz.e120:Tryz.abEnv.fn 120=some Tryz.f120:=by kernel_rfl
theorem Tryz.e121:Tryz.abEnv.fn 121=some Tryz.f121:=by kernel_rfl
theorem Tryz.e122:Tryz.abEnv.fn 122=some Tryz.f122:=by kernel_rfl
theorem Tryz.e127:Tryz.abEnv.fn 127=some Tryz.f127:=by kernel_rfl
theorem Tryz.u246:Tryz.abEnv.und 246=some (.slice 255):=by kernel_rfl
theorem Tryz.a246:Tryz.abEnv.agg 246=some false:=by kernel_rfl
theorem Tryz.s246:Tryz.abEnv.sz 246=some 1:=by kernel_rfl
theorem Tryz.z246:Tryz.abEnv.zero 246=some [.slice none 0 0]:=by kernel_rfl
theorem Tryz.q246:jn xW 246=true:=by kernel_rfl
theorem Tryz.n246:ax xW 246=some false:=by kernel_rfl
theorem Tryz.a255:Tryz.abEnv.agg 255=some true:=by kernel_rfl
theorem Tryz.s255:Tryz.abEnv.sz 255=some 2:=by kernel_rfl
theorem Tryz.z255:Tryz.abEnv.zero 255=some [.int .i64 0,.int .i64 0]:=by kernel_rfl
theorem Tryz.i255:aQ xW 255=true:=by kernel_rfl
theorem Tryz.n255:ax xW 255=some false:=by kernel_rfl
theorem Tryz.p255:placesOf xW 255=some [(0,1),(1,1)]:=by kernel_rfl
theorem Tryz.ff255(b o:Nat)(s:Option Nat):an xW 255 (.pointer (some ⟨b,o,s⟩)) 0=some (.pointer (some ⟨b,o+0,none⟩))/\an xW 255 (.pointer (some ⟨b,o,s⟩)) 1=some (.pointer (some ⟨b,o+1,none⟩)):=⟨rfl,rfl⟩
theorem Tryz.d255(x0 x1:Value):aq xW 255 (.agg ⟨[x0,x1]⟩) 0=some x0/\aq xW 255 (.agg ⟨[x0,x1]⟩) 1=some x1:=⟨rfl,rfl⟩
theorem Tryz.e255E:dN xW 255 16 2 [.int .i64 0,.int .i64 0]:=⟨⟨_,rfl,by kernel_rfl,by kernel_rfl⟩,Tryz.z255,rfl⟩
theorem Tryz.e128:Tryz.abEnv.fn 128=some Tryz.f128:=by kernel_rfl
theorem Tryz.e129:Tryz.abEnv.fn 129=some Tryz.f129:=by kernel_rfl
theorem Tryz.e130:Tryz.abEnv.fn 130=some Tryz.f130:=by kernel_rfl
theorem Tryz.e131:Tryz.abEnv.fn 131=some Tryz.f131:=by kernel_rfl
theorem Tryz.e132:Tryz.abEnv.fn 132=some Tryz.f132:=by kernel_rfl
theorem Tryz.e133:Tryz.abEnv.fn 133=some Tryz.f133:=by kernel_rfl
theorem Tryz.e134:Tryz.abEnv.fn 134=some Tryz.f134:=by kernel_rfl
theorem Tryz.e135:Tryz.abEnv.fn 135=some Tryz.f135:=by kernel_rfl
theorem Tryz.e136:Tryz.abEnv.fn 136=some Tryz.f136:=by kernel_rfl
theorem Tryz.e137:Tryz.abEnv.fn 137=some Tryz.f137:=by kernel_rfl
theorem Tryz.e138:Tryz.abEnv.fn 138=some Tryz.f138:=by kernel_rfl
theorem Tryz.e139:Tryz.abEnv.fn 139=some Tryz.f139:=by kernel_rfl
theorem Tryz.e140:Tryz.abEnv.fn 140=some Tryz.f140:=by kernel_rfl
theorem Tryz.e141:Tryz.abEnv.fn 141=some Tryz.f141:=by kernel_rfl
theorem Tryz.e142:Tryz.abEnv.fn 142=some Tryz.f142:=by kernel_rfl
theorem Tryz.e143:Tryz.abEnv.fn 143=some Tryz.f143:=by kernel_rfl
theorem Tryz.e144:Tryz.abEnv.fn 144=some Tryz.f144:=by kernel_rfl
theorem Tryz.e145:Tryz.abEnv.fn 145=some Tryz.f145:=by kernel_rfl
theorem Tryz.e146:Tryz.abEnv.fn 146=some Tryz.f146:=by kernel_rfl
theorem Tryz.e147:Tryz.abEnv.fn 147=some Tryz.f147:=by kernel_rfl
theorem Tryz.e148:Tryz.abEnv.fn 148=some Tryz.f148:=by kernel_rfl
theorem Tryz.e149:Tryz.abEnv.fn 149=some Tryz.f149:=by kernel_rfl
theorem Tryz.a231:Tryz.abEnv.agg 231=some false:=by kernel_rfl
theorem Tryz.s231:Tryz.abEnv.sz 231=some 1:=by kernel_rfl
theorem Tryz.z231:Tryz.abEnv.zero 231=some [.nilFunc]:=by kernel_rfl
theorem Tryz.n231:ax xW 231=some false:=by kernel_rfl
theorem Tryz.e150:Tryz.abEnv.fn 150=some Tryz.f150:=by kernel_rfl
theorem Tryz.e151:Tryz.abEnv.fn 151=some Tryz.f151:=by kernel_rfl
theorem Tryz.e155:Tryz.abEnv.fn 155=some Tryz.f155:=by kernel_rfl
theorem Tryz.u269:Tryz.abEnv.und 269=some (.pointer 248):=by kernel_rfl
theorem Tryz.a269:Tryz.abEnv.agg 269=some false:=by kernel_rfl
theorem Tryz.s269:Tryz.abEnv.sz 269=some 1:=by kernel_rfl
theorem Tryz.z269:Tryz.abEnv.zero 269=some [.pointer none]:=by kernel_rfl
theorem Tryz.q269:fS xW 269=true:=by kernel_rfl
theorem Tryz.i269:aQ xW 269=true:=by kernel_rfl
theorem Tryz.n269:ax xW 269=some false:=by kernel_rfl
theorem Tryz.e156:Tryz.abEnv.fn 156=some Tryz.f156:=by kernel_rfl
theorem Tryz.e157:Tryz.abEnv.fn 157=some Tryz.f157:=by kernel_rfl
theorem Tryz.e158:Tryz.abEnv.fn 158=some Tryz.f158:=by kernel_rfl
theorem Tryz.a270:Tryz.abEnv.agg 270=some false:=by kernel_rfl
theorem Tryz.s270:Tryz.abEnv.sz 270=some 1:=by kernel_rfl
theorem Tryz.z270:Tryz.abEnv.zero 270=some [.nilFunc]:=by kernel_rfl
theorem Tryz.n270:ax xW 270=some false:=by kernel_rfl
theorem Tryz.e159:Tryz.abEnv.fn 159=some Tryz.f159:=by kernel_rfl
theorem Tryz.a257:Tryz.abEnv.agg 257=some false:=by kernel_rfl
theorem Tryz.s257:Tryz.abEnv.sz 257=some 1:=by kernel_rfl
theorem Tryz.z257:Tryz.abEnv.zero 257=some [.nilFunc]:=by kernel_rfl
theorem Tryz.n257:ax xW 257=some false:=by kernel_rfl
theorem Tryz.e160:Tryz.abEnv.fn 160=some Tryz.f160:=by kernel_rfl
theorem Tryz.e161:Tryz.abEnv.fn 161=some Tryz.f161:=by kernel_rfl
theorem Tryz.e162:Tryz.abEnv.fn 162=some Tryz.f162:=by kernel_rfl
theorem Tryz.e163:Tryz.abEnv.fn 163=some Tryz.f163:=by kernel_rfl
theorem Tryz.e164:Tryz.abEnv.fn 164=some Tryz.f164:=by kernel_rfl
theorem Tryz.e165:Tryz.abEnv.fn 165=some Tryz.f165:=by kernel_rfl
theorem Tryz.e167:Tryz.abEnv.fn 167=some Tryz.f167:=by kernel_rfl
theorem Tryz.e168:Tryz.abEnv.fn 168=some Tryz.f168:=by kernel_rfl
theorem Tryz.e170:Tryz.abEnv.fn 170=some Tryz.f170:=by kernel_rfl
theorem Tryz.e171:Tryz.abEnv.fn 171=some Tryz.f171:=by kernel_rfl
theorem Tryz.e172:Tryz.abEnv.fn 172=some Tryz.f172:=by kernel_rfl
theorem Tryz.e174:Tryz.abEnv.fn 174=some Tryz.f174:=by kernel_rfl
theorem Tryz.e175:Tryz.abEnv.fn 175=some Tryz.f175:=by kernel_rfl
theorem Tryz.e176:Tryz.abEnv.fn 176=some Tryz.f176:=by kernel_rfl
theorem Tryz.e177:Tryz.abEnv.fn 177=some Tryz.f177:=by kernel_rfl
theorem Tryz.e179:Tryz.abEnv.fn 179=some Tryz.f179:=by kernel_rfl
end Go.Ab

end
section
namespace Go.Ab
open Go.Proofs
set_option maxRecDepth 10000
open Tryz in
def Tryz.FFt1168:=aj a1<|aj s1<|aj z1<|aj n1<|aj u2<|aj a2<|aj s2<|aj z2<|aj i2<|aj u3<|aj a3<|aj s3<|aj z3<|aj i3<|aj u4<|aj a4<|aj s4<|aj z4<|aj n4<|aj u44<|aj a44<|aj s44<|aj z44<|aj i44<|aj a188<|aj s188<|aj z188<|aj i188<|aj n188<|aj p188<|aj ff188<|aj d188<|aj u230<|aj a230<|aj s230<|aj z230<|aj q230<|aj n230<|aj a231<|aj s231<|aj z231<|n231
theorem values{h0:Hp}(ok:h0.t.Sized h0.n){v:Value}(hv:Fl v):Ret xW 149 [v] h0 fun r h'=>Gr h0 h'/\ ∃b,r=.func (.func 168) #[] #[ptrTo b]/\h0.n<=b/\h'.load b 0 1=some [v]:=by
 have S:=Si ok
 refine ac (n:=4) (rs:=[.tmp 2]) rfl Tryz.e149 rfl rfl rfl (lbt rfl) ?_
 simp only [BS,Nat.reduceLT]
 refine ae (co (by assumption)) S ?_;clear S;intro h b S n_b
 simp only [BS,LB,ab,Nat.reduceLT,Nat.reduceEqDiff]
 exact⟨S.gr,b,rfl,n_b,S.ld m0 rfl⟩
theorem pN{h0:Hp}(ok0:h0.t.Sized h0.n){v:Value}{b:Nat}{ps:List Pl}(hb:h0.load b 0 1=some [v])(hs:aA h0 6 iI v ps)(hlen:ps.length<1000):
 Iter xW 168 [] [ptrTo b] h0 (fun c=>c=b\/av v c) (ps.map fun p=>[.agg ⟨iI p⟩]):=by
 refine pC fun lb J Z Y h F s hj=>?_
 refine enter (n:=16) (rs:=[]) rfl Tryz.e168 rfl rfl rfl (lbt rfl) ?_
 have hb':=s.load ok0 hb (.inl rfl)
 have hs':=s.sl ok0 hs (fun b h=>.inr h)
 simp only [BS,LB,Nat.reduceLT,Tryz.FFt1168,hb',hs'.lenq]
 refine aZ (fun(i:Nat) ρ h=>i<=ps.length/\ ∃F,ItS h0 (fun c=>c=b\/av v c) h F/\J i h F/\ρ 0=.func (.yield lb) #[] #[]/\ρ 5=v/\ρ 6=.int .i64 ps.length/\ρ 7=.int .i64 i) (fun i=>ps.length-i) ?_ 0 _ _ ?_
 . intro i ih ρ h ⟨hi,F,s,hj,r0,r5,r6,r7⟩
   by_cases hlt:i<ps.length
   . have hs':=s.sl ok0 hs (fun b h=>.inr h)
     obtain⟨c,o,hidx,hld⟩:=hs'.ix (kd:=.i64) encP_len hlt
     have S:=Si s.ok
     have w:au .i64 ((i:Int)+1)=((i+1:Nat):Int):=by rw [wrap64]<;>omega
     simp only [BS,LB,Nat.reduceLT,Nat.reduceEqDiff,Tryz.FFt1168,r5,r6,r7,aI,hlt,hidx,hld]
     refine ae aw S ?_;clear S;intro h bb S n_bb
     simp only [BS,LB,Nat.reduceLT,Nat.reduceEqDiff,iI]
     refine az (S.store (i:=0) rfl ?_ ?_ rfl rfl ?_ ono) ?_
     . exact(by exact Tryz.s188)
     . exact(by intro x e;cases e)
     . exact lbt rfl
     clear S;rintro h ⟨S,mo⟩;clear mo;simp only [LC,ag,lay,xY,xZ,Nat.reduceAdd]at S
     simp only [BS,LB,Nat.reduceLT,Nat.reduceEqDiff,Tryz.FFt1168,r0,S.lds (b:=bb) (o:=0) (n:=6) m0 (lbt rfl)]
     refine eG Y (s.gr S.gr) (Y.gr _ _ _ _ hj S.gr) (i:=i) (by simp [hlt,iI]) ?_ ?_ ?_
     . intro h' F' a s' _ _
       simp only [BS,LB,Nat.reduceLT,Nat.reduceEqDiff,r7,w]
       exact ih (i+1) _ _ (by omega) ⟨by omega,F',s',a,by simp [aa,r0],by simp [aa,r5],by simp [aa,r6],by simp [aa]⟩
     . intro h' a _
       simp only [BS,LB,Nat.reduceLT,Nat.reduceEqDiff]
       exact iw rfl ⟨rfl,.inr (.inl ⟨_,rfl,a⟩)⟩
     . intro v h' a
       simp only [BS]
       exact iO (dy ⟨rfl,.inr (.inr ⟨_,rfl,a⟩)⟩)
   . simp only [BS,LB,Nat.reduceLT,r6,r7,aI,hlt]
     have:i=ps.length:=by omega
     subst this
     exact dv (dy ⟨rfl,_,rfl,rfl,.inl ⟨_,F,rfl,by simpa using hj⟩⟩)
 . exact⟨by omega,F,s,hj,by simp [aa,ce],by simp [aa],by simp [aa],by simp [aa]⟩
open Tryz in
def Tryz.FFt2115:=aj a1<|aj s1<|aj z1<|aj n1<|aj u2<|aj a2<|aj s2<|aj z2<|aj i2<|aj u3<|aj a3<|aj s3<|aj z3<|aj i3<|aj u4<|aj a4<|aj s4<|aj z4<|aj n4<|aj u5<|aj a5<|aj s5<|aj z5<|aj i5<|aj u44<|aj a44<|aj s44<|aj z44<|aj i44<|aj a182<|aj s182<|aj z182<|aj n182<|aj a188<|aj s188<|aj z188<|aj i188<|aj n188<|aj p188<|aj ff188<|aj d188<|aj u230<|aj a230<|aj s230<|aj z230<|aj q230<|n230
open Tryz in
def Tryz.FFt2117:=aj a1<|aj s1<|aj z1<|aj n1<|aj u2<|aj a2<|aj s2<|aj z2<|aj i2<|aj u3<|aj a3<|aj s3<|aj z3<|aj i3<|aj u4<|aj a4<|aj s4<|aj z4<|aj n4<|aj u5<|aj a5<|aj s5<|aj z5<|aj i5<|aj u25<|aj a25<|aj s25<|aj z25<|aj q25<|aj n25<|aj u28<|aj a28<|aj s28<|aj z28<|aj q28<|aj n28<|aj a30<|aj s30<|aj z30<|aj i30<|aj n30<|aj p30<|aj ff30<|aj d30<|aj u44<|aj a44<|aj s44<|aj z44<|aj i44<|aj a59<|aj s59<|aj z59<|aj i59<|aj n59<|aj p59<|aj ff59<|aj d59<|aj a182<|aj s182<|aj z182<|aj n182<|aj a188<|aj s188<|aj z188<|aj i188<|aj n188<|aj p188<|aj ff188<|aj d188<|aj u230<|aj a230<|aj s230<|aj z230<|aj q230<|n230
open Tryz in
def Tryz.FFt2150:=aj a1<|aj s1<|aj z1<|aj n1<|aj u2<|aj a2<|aj s2<|aj z2<|aj i2<|aj u3<|aj a3<|aj s3<|aj z3<|aj i3<|aj u4<|aj a4<|aj s4<|aj z4<|aj n4<|aj u5<|aj a5<|aj s5<|aj z5<|aj i5<|aj u6<|aj a6<|aj s6<|aj z6<|aj i6<|aj a7<|aj s7<|aj z7<|aj i7<|aj n7<|aj p7<|aj ff7<|aj d7<|aj a8<|aj s8<|aj z8<|aj i8<|aj n8<|aj p8<|aj ff8<|aj d8<|aj u25<|aj a25<|aj s25<|aj z25<|aj q25<|aj n25<|aj u28<|aj a28<|aj s28<|aj z28<|aj q28<|aj n28<|aj a30<|aj s30<|aj z30<|aj i30<|aj n30<|aj p30<|aj ff30<|aj d30<|aj u44<|aj a44<|aj s44<|aj z44<|aj i44<|aj a59<|aj s59<|aj z59<|aj i59<|aj n59<|aj p59<|aj ff59<|aj d59<|aj a188<|aj s188<|aj z188<|aj i188<|aj n188<|aj p188<|aj ff188<|aj d188<|aj a231<|aj s231<|aj z231<|n231
def kM(n0 n1:Nat)(v:Value)(h':Hp):Prop:= ∃gi a post,∃(ps:List Pl) (D:Nat->Prop),v=.func (.func gi) a post/\Iter xW gi a.toList post.toList h' D (ps.map fun p=>[.agg ⟨iI p⟩])/\(∀p∈ps,p.lo<=p.n/\p.n<p.hi)/\ ∀c,D c->c<n0\/n1<=c
theorem one_ok{h0:Hp}(ok:h0.t.Sized h0.n){c n lo hi:Int}(h1:lo<=n)(h2:n<hi):
 Ret xW 115 [.int .i64 c,.int .i64 n,.int .i64 lo,.int .i64 hi] h0 fun v h'=>Gr h0 h'/\kM 0 h0.n v h':=by
 have S:=Si ok
 refine ac (n:=16) (rs:=[.tmp 8]) rfl Tryz.e115 rfl rfl rfl (lbt rfl) ?_
 simp only [BS,LB,Nat.reduceLT,Nat.reduceEqDiff,Nat.reduceAdd,Tryz.FFt2115]
 refine ae (bL (by exact Tryz.u230) (by exact Tryz.e188E) (by decide) (by rfl)) S ?_;clear S;intro h b S n_b;simp only [LC,aU,bI,ag,Nat.reduceMul,Nat.reduceAdd,yd,yb,yh,yi]at S
 simp only [BS,LB,Nat.reduceLT,Nat.reduceEqDiff]
 have q:=S.fr.n
 refine step_ret (values S.ok aW) ?_;intro v h ⟨g,b2,e,n2,l2⟩;replace S:=S.call g;clear g
 subst e
 simp only [BS,LB,ab,Nat.reduceLT,Nat.reduceEqDiff]
 have hs:aA h 6 iI (.slice (some ⟨b,0,none⟩) 1 1) [⟨0,0,c,n,lo,hi⟩]:=.inr ⟨b,0,none,1,rfl,yA _,S.lds (b:=b) (o:=0) (n:=1*6) m0 (lbt rfl)⟩
 exact⟨S.gr,_,#[],#[ptrTo b2],_,_,rfl,pN S.ok l2 hs (by simp),by intro p hp;simp at hp;subst hp;exact⟨h1,h2⟩,fun c hc=>by rcases hc with rfl|hc;exact .inr (by omega);cases hc;exact .inr n_b⟩
theorem shapes_ok{h0:Hp}(ok:h0.t.Sized h0.n){γ:Gra}(hγ:Good γ){vx vy va:Value}(ga:cN h0 vx vy va γ):
 Ret xW 117 [gH γ vx vy va] h0 fun v h'=>Gr h0 h'/\kM 0 h0.n v h':=by
 have S:=Si ok
 have n1:=hγ.n1
 have n2:=hγ.n2
 have w:au .i64 ((γ.nodes:Int)+1)=((γ.nodes+1:Nat):Int):=by rw [wrap64]<;>omega
 refine ac (n:=22) (rs:=[.tmp 2]) rfl Tryz.e117 rfl rfl rfl (lbt rfl) ?_
 simp only [BS,Nat.reduceLT,gH]
 refine ae (bE (by intro x e;cases e)) S ?_;clear S;intro h b S n_b;simp only [ag]at S
 simp only [BS,LB,Nat.reduceLT,Nat.reduceEqDiff,Nat.reduceAdd,Tryz.FFt2117,ga.X.lenq,ga.Y.lenq,w,S.ld (b:=b) (o:=0) m0 rfl,S.ld (b:=b) (o:=1) m0 rfl,S.ld (b:=b) (o:=2) m0 rfl]
 refine ae (bL (by exact Tryz.u230) (by exact Tryz.e188E) (by decide) (by rfl)) S ?_;clear S;intro h b1 S n_b1;simp only [LC,aU,bI,ag,Nat.reduceMul,Nat.reduceAdd,yd,yb,yh,yi]at S
 simp only [BS,LB,Nat.reduceLT,Nat.reduceEqDiff]
 have q:=S.fr.n
 refine step_ret (values S.ok aW) ?_;intro v h ⟨g,b2,e,n2',l2⟩;replace S:=S.call g;clear g
 subst e
 simp only [BS,LB,ab,Nat.reduceLT,Nat.reduceEqDiff]
 have hs:aA h 6 iI (.slice (some ⟨b1,0,none⟩) 2 2) [⟨0,0,6,γ.X.length,γ.nodes,(γ.nodes+1:Nat)⟩,⟨0,1,6,γ.Y.length,γ.nodes,(γ.nodes+1:Nat)⟩]:=.inr ⟨b1,0,none,2,rfl,yA _,S.lds (b:=b1) (o:=0) (n:=2*6) m0 (lbt rfl)⟩
 refine⟨S.gr,_,#[],#[ptrTo b2],_,_,rfl,pN S.ok l2 hs (by simp),?_,fun c hc=>by rcases hc with rfl|hc;exact .inr (by omega);cases hc;exact .inr n_b1⟩
 intro p hp
 have:=hγ.lX
 have:=hγ.lY
 simp at hp
 rcases hp with rfl|rfl<;>(simp only [];omega)
theorem nodes_ok{h0:Hp}(ok:h0.t.Sized h0.n){vx vy va vn:Value}:Ret xW 119 [.agg ⟨[vn,vx,vy,va]⟩] h0 fun v h'=>Gr h0 h'/\ ∃b,v=.func (.func 150) #[] #[ptrTo b]/\h0.n<=b/\Row h' b [vn,vx,vy,va] 1:=by
 have S:=Si ok
 refine ac (n:=4) (rs:=[.tmp 2]) rfl Tryz.e119 rfl rfl rfl (lbt rfl) ?_
 simp only [BS,Nat.reduceLT]
 refine ae (bE (by intro x e;cases e)) S ?_;clear S;intro h b S n_b;simp only [ag]at S
 simp only [BS,LB,ab,Nat.reduceLT,Nat.reduceEqDiff]
 exact⟨S.gr,b,rfl,n_b,S.row m0⟩
theorem arcs_ok{h0:Hp}(ok:h0.t.Sized h0.n){vx vy va vn:Value}:Ret xW 122 [.agg ⟨[vn,vx,vy,va]⟩] h0 fun v h'=>Gr h0 h'/\ ∃b,v=.func (.func 151) #[] #[ptrTo b]/\h0.n<=b/\Row h' b [vn,vx,vy,va] 1:=by
 have S:=Si ok
 refine ac (n:=4) (rs:=[.tmp 2]) rfl Tryz.e122 rfl rfl rfl (lbt rfl) ?_
 simp only [BS,Nat.reduceLT]
 refine ae (bE (by intro x e;cases e)) S ?_;clear S;intro h b S n_b;simp only [ag]at S
 simp only [BS,LB,ab,Nat.reduceLT,Nat.reduceEqDiff]
 exact⟨S.gr,b,rfl,n_b,S.row m0⟩
def plN(X Y:List Int):List Pl:=(yf X.length).flatMap fun(i:Nat)=>[⟨i,0,7,X.getD i 0,-2147483648,2147483648⟩,⟨i,1,7,Y.getD i 0,-2147483648,2147483648⟩]
theorem plN_len(X Y:List Int):(plN X Y).length=2*X.length:=by
 unfold plN
 rw [yo]
 simp [yt]
 omega
theorem plN_at(X Y:List Int){i:Nat}(hi:i<X.length):(plN X Y)[2*i]? =some ⟨i,0,7,X.getD i 0,-2147483648,2147483648⟩/\(plN X Y)[2*i+1]? =some ⟨i,1,7,Y.getD i 0,-2147483648,2147483648⟩:=by
 unfold plN
 have key: ∀(n j:Nat) (f:Nat->Pl) (k:Nat->Pl),j<n->((yf n).flatMap fun i=>[f i,k i])[2*j]? =some (f j)/\((yf n).flatMap fun i=>[f i,k i])[2*j+1]? =some (k j):=by
  intro n
  induction n with
  |zero=>intro j f k hj;omega
  | succ n ih=>
    intro j f k hj
    have hlen:((yf n).flatMap fun i=>[f i,k i]).length=2*n:=by rw [yo];simp [yt];omega
    rw [yz,yg]
    by_cases h:j<n
    . rw [yk (by omega),yk (by omega)];exact ih j f k h
    . have:j=n:=by omega
      subst this
      rw [yj (by omega),yj (by omega),hlen]
      simp
 exact key _ _ _ _ hi
theorem wU{h0:Hp}(ok0:h0.t.Sized h0.n){vx vy va vn:Value}{b:Nat}{X Y:List Int}(hb:Row h0 b [vn,vx,vy,va] 1)(hX:aA h0 1 (encI .i64) vx X)(hY:aA h0 1 (encI .i64) vy Y)(hl:X.length=Y.length)(hlen:X.length<1000):
 Iter xW 150 [] [ptrTo b] h0 (fun c=>c=b\/av vx c\/av vy c) ((plN X Y).map fun p=>[.agg ⟨iI p⟩]):=by
 refine pC fun lb J Z Y' h F s hj=>?_
 refine enter (n:=38) (rs:=[]) rfl Tryz.e150 rfl rfl rfl (lbt rfl) ?_
 have l1:=s.load ok0 (hb.load1 (o:=1) rfl) (.inl rfl)
 simp only [BS,LB,Nat.reduceLT,Nat.reduceEqDiff,Tryz.FFt2150,l1,hX.lenq]
 refine aZ (fun(i:Nat) ρ h=>i<=X.length/\ ∃F,ItS h0 (fun c=>c=b\/av vx c\/av vy c) h F/\J (2*i) h F/\ρ 0=.func (.yield lb) #[] #[]/\ρ 1=ptrTo b/\ρ 8=.int .i64 X.length/\ρ 9=.int .i64 i) (fun i=>X.length-i) ?_ 0 _ _ ?_
 . intro i ih ρ h ⟨hi,F,s,hj,r0,r1,r8,r9⟩
   by_cases hlt:i<X.length
   . have hX':=s.sl ok0 hX (fun b h=>.inr (.inl h))
     have hY':=s.sl ok0 hY (fun b h=>.inr (.inr h))
     have l1:=s.load ok0 (hb.load1 (o:=1) rfl) (.inl rfl)
     have l2:=s.load ok0 (hb.load1 (o:=2) rfl) (.inl rfl)
     obtain⟨c,o,hidx,hld⟩:=hX'.ix (kd:=.i64) (dJ _) hlt
     obtain⟨c2,o2,hidx2,hld2⟩:=hY'.ix (kd:=.i64) (dJ _) (i:=i) (by omega)
     have S:=Si s.ok
     have w:au .i64 ((i:Int)+1)=((i+1:Nat):Int):=by rw [wrap64]<;>omega
     simp only [BS,LB,Nat.reduceLT,Nat.reduceEqDiff,r8,r9,aI,hlt]
     refine aC (aH rfl) (q:=1024) (ps:=[]) (by kernel_rfl) ?_
     simp only [BS,LB,cls,Nat.reduceLT,Nat.reduceEqDiff,Nat.reduceAdd,Nat.reducePow,Nat.reduceDiv,Nat.reduceMod,Nat.reduceLeDiff,Tryz.FFt2150,r1,l1,l2,hidx,hidx2,hld,hld2,encI]
     refine dt (bL (by exact Tryz.u25) (by exact Tryz.e2E) (by decide) (by rfl)) S ?_;clear S;intro h b22 S n_b22 e_b22;simp only [LC,aU,bI,ag,Nat.reduceMul,Nat.reduceAdd,yd,yb,yh,yi]at S
     simp only [BS,LB,cls,Nat.reduceLT,Nat.reduceEqDiff,Nat.reduceAdd,Nat.reducePow,Nat.reduceDiv,Nat.reduceMod,Nat.reduceLeDiff,ye,Tryz.FFt2150]
     have w1:au .i64 1=1:=rfl
     have w2:au .i64 2=2:=rfl
     have hp:=plN_at X Y hlt
     rw [bS]
     simp only [BS,LB,Nat.reduceLT,Nat.reduceEqDiff,Nat.reduceAdd,Int.reduceToNat,Int.reduceLE,Int.reduceLT,ye,Tryz.FFt2150,r0,S.ld (b:=b22) (o:=0) m0 rfl,S.ld (b:=b22) (o:=1) m0 rfl]
     refine eG Y' (s.gr S.gr) (Y'.gr _ _ _ _ hj S.gr) (i:=2*i) (by rw [yl,hp.1];simp [iI,yc,hlt]) ?_ ?_ ?_
     . intro h2 F2 a s2 mo2 _
       have nF:b22∉F:=fun hm=>by have:=s.lt _ hm;omega
       have R:Row h2 b22 _ 1:=(S.row m0).of_get (mo2.get _ ((S.row m0).lt S.ok) nF)
       have R1:=R.load1 (o:=1) rfl
       have nF2:True:=trivial
       simp only [BS,LB,Nat.reduceLT,Nat.reduceEqDiff,Int.reduceAdd,w1]
       rw [bS]
       simp only [BS,LB,Nat.reduceLT,Nat.reduceEqDiff,Nat.reduceAdd,Int.reduceToNat,Int.reduceLE,Int.reduceLT,ye,Tryz.FFt2150,r0,R1]
       refine eG Y' s2 a (i:=2*i+1) (by rw [yl,hp.2];simp [iI,yc,show i<Y.length by omega]) ?_ ?_ ?_
       . intro h3 F3 a s3 _ _
         simp only [BS,LB,Nat.reduceLT,Nat.reduceEqDiff,Int.reduceAdd,w2]
         rw [bS]
         simp only [BS,LB,Nat.reduceLT,Nat.reduceEqDiff,Int.reduceLT,r9,w]
         exact ih (i+1) _ _ (by omega) ⟨by omega,F3,s3,a,by simp [aa,r0],by simp [aa,r1],by simp [aa,r8],by simp [aa]⟩
       . intro h' a _
         simp only [BS,LB,Nat.reduceLT,Nat.reduceEqDiff]
         exact iw rfl ⟨rfl,.inr (.inl ⟨_,rfl,a⟩)⟩
       . intro v h' a
         simp only [BS]
         exact iO (dy ⟨rfl,.inr (.inr ⟨_,rfl,a⟩)⟩)
     . intro h' a _
       simp only [BS,LB,Nat.reduceLT,Nat.reduceEqDiff]
       exact iw rfl ⟨rfl,.inr (.inl ⟨_,rfl,a⟩)⟩
     . intro v h' a
       simp only [BS]
       exact iO (dy ⟨rfl,.inr (.inr ⟨_,rfl,a⟩)⟩)
   . simp only [BS,LB,Nat.reduceLT,r8,r9,aI,hlt]
     have:i=X.length:=by omega
     subst this
     exact dv (dy ⟨rfl,_,rfl,rfl,.inl ⟨_,F,rfl,by simpa [plN_len]using hj⟩⟩)
 . exact⟨by omega,F,s,hj,by simp [aa,ce],by simp [aa,ce,ah],by simp [aa],by simp [aa]⟩
open Tryz in
def Tryz.FFt3151:=aj a1<|aj s1<|aj z1<|aj n1<|aj u2<|aj a2<|aj s2<|aj z2<|aj i2<|aj u3<|aj a3<|aj s3<|aj z3<|aj i3<|aj u4<|aj a4<|aj s4<|aj z4<|aj n4<|aj u5<|aj a5<|aj s5<|aj z5<|aj i5<|aj u6<|aj a6<|aj s6<|aj z6<|aj i6<|aj a7<|aj s7<|aj z7<|aj i7<|aj n7<|aj p7<|aj ff7<|aj d7<|aj a8<|aj s8<|aj z8<|aj i8<|aj n8<|aj p8<|aj ff8<|aj d8<|aj u9<|aj a9<|aj s9<|aj z9<|aj n9<|aj u25<|aj a25<|aj s25<|aj z25<|aj q25<|aj n25<|aj u28<|aj a28<|aj s28<|aj z28<|aj q28<|aj n28<|aj a30<|aj s30<|aj z30<|aj i30<|aj n30<|aj p30<|aj ff30<|aj d30<|aj u44<|aj a44<|aj s44<|aj z44<|aj i44<|aj a59<|aj s59<|aj z59<|aj i59<|aj n59<|aj p59<|aj ff59<|aj d59<|aj a188<|aj s188<|aj z188<|aj i188<|aj n188<|aj p188<|aj ff188<|aj d188<|aj u230<|aj a230<|aj s230<|aj z230<|aj q230<|aj n230<|aj a231<|aj s231<|aj z231<|n231
def plA(n:Nat)(A:List Arc):List Pl:=(yf A.length).flatMap fun(i:Nat)=>[⟨i,0,9,(A.getD i default).s,0,n⟩,⟨i,1,9,(A.getD i default).t,0,n⟩,⟨i,2,10,(A.getD i default).w,0,2147483648⟩]
theorem flat3_at{α:Type}(f k l:Nat->α): ∀(n j:Nat),j<n->((yf n).flatMap fun i=>[f i,k i,l i])[3*j]? =some (f j)/\((yf n).flatMap fun i=>[f i,k i,l i])[3*j+1]? =some (k j)/\((yf n).flatMap fun i=>[f i,k i,l i])[3*j+2]? =some (l j):=by
 intro n
 induction n with
 |zero=>intro j hj;omega
 | succ n ih=>
   intro j hj
   have hlen:((yf n).flatMap fun i=>[f i,k i,l i]).length=3*n:=by rw [yo];simp [yt];omega
   rw [yz,yg]
   by_cases h:j<n
   . rw [yk (by omega),yk (by omega),yk (by omega)];exact ih j h
   . have:j=n:=by omega
     subst this
     rw [yj (by omega),yj (by omega),yj (by omega),hlen]
     simp
theorem plA_len(n:Nat)(A:List Arc):(plA n A).length=3*A.length:=by
 unfold plA
 rw [yo]
 simp [yt]
 omega
theorem arcs_iter {h0:Hp} (ok0:h0.t.Sized h0.n) {vx vy va:Value} {b n:Nat} {A:List Arc} (hb:Row h0 b [.int .i64 n,vx,vy,va] 1) (hA:aA h0 3 cI va A) (hlen:A.length<1000):
 Iter xW 151 [] [ptrTo b] h0 (fun c=>c=b\/av va c) ((plA n A).map fun p=>[.agg ⟨iI p⟩]):=by
 refine pC fun lb J Z Y' h F s hj=>?_
 refine enter (n:=44) (rs:=[]) rfl Tryz.e151 rfl rfl rfl (lbt rfl) ?_
 have l0:=s.load ok0 (hb.load1 (o:=0) rfl) (.inl rfl)
 have l3:=s.load ok0 (hb.load1 (o:=3) rfl) (.inl rfl)
 simp only [BS,LB,Nat.reduceLT,Nat.reduceEqDiff,Tryz.FFt3151,l0,l3,hA.lenq]
 refine aZ (fun(i:Nat) ρ h=>i<=A.length/\ ∃F,ItS h0 (fun c=>c=b\/av va c) h F/\J (3*i) h F/\ρ 0=.func (.yield lb) #[] #[]/\ρ 3=.int .i64 n/\ρ 11=va/\ρ 12=.int .i64 A.length/\ρ 13=.int .i64 i) (fun i=>A.length-i) ?_ 0 _ _ ?_
 . intro i ih ρ h ⟨hi,F,s,hj,r0,r3,r11,r12,r13⟩
   by_cases hlt:i<A.length
   . have hA':=s.sl ok0 hA (fun b h=>.inr h)
     obtain⟨c,o,hidx,hld⟩:=hA'.ix (kd:=.i64) eP hlt
     have S:=Si s.ok
     have w:au .i64 ((i:Int)+1)=((i+1:Nat):Int):=by rw [wrap64]<;>omega
     have w1:au .i64 1=1:=rfl
     have w2:au .i64 2=2:=rfl
     have w3:au .i64 3=3:=rfl
     have hp:=flat3_at (fun(i:Nat)=>(⟨i,0,9,(A.getD i default).s,0,n⟩:Pl)) (fun(i:Nat)=>⟨i,1,9,(A.getD i default).t,0,n⟩) (fun(i:Nat)=>⟨i,2,10,(A.getD i default).w,0,2147483648⟩) A.length i hlt
     have hd:A.getD i default=A[i]:=by simp [yc,hlt]
     simp only [BS,LB,Nat.reduceLT,Nat.reduceEqDiff,Tryz.FFt3151,r11,r12,r13,aI,hlt,hidx,hld]
     refine ae aw S ?_;clear S;intro h b5 S n_b5
     simp only [BS,LB,Nat.reduceLT,Nat.reduceEqDiff,cI]
     refine az (S.store (i:=0) rfl ?_ ?_ rfl rfl ?_ ono) ?_
     . exact(by exact Tryz.s59)
     . exact(by intro x e;cases e)
     . exact lbt rfl
     clear S;rintro h ⟨S,mo⟩;clear mo;simp only [LC,ag,lay,xY,xZ,Nat.reduceAdd]at S
     simp only [BS,LB,Nat.reduceLT,Nat.reduceEqDiff,Nat.reduceAdd,Tryz.FFt3151,r3,S.ld (b:=b5) (o:=0) m0 rfl,S.ld (b:=b5) (o:=1) m0 rfl,S.ld (b:=b5) (o:=2) m0 rfl]
     refine ae (bL (by exact Tryz.u230) (by exact Tryz.e188E) (by decide) (by rfl)) S ?_;clear S;intro h bl S n_bl;simp only [LC,aU,bI,ag,Nat.reduceMul,Nat.reduceAdd,yd,yb,yh,yi]at S
     simp only [BS,LB,Nat.reduceLT,Nat.reduceEqDiff,ye,Tryz.FFt3151]
     have nF:bl∉F:=fun hm=>by have:=s.lt _ hm;omega
     have R:Row h bl _ 1:=S.row m0
     have hbl:=R.lt S.ok
     rw [bS]
     simp only [BS,LB,Nat.reduceLT,Nat.reduceEqDiff,Int.reduceToNat,Int.reduceLE,Int.reduceLT,ye,Tryz.FFt3151,S.lds (b:=bl) (o:=0) (n:=6) m0 (lbt rfl)]
     refine ae aw S ?_;clear S;intro h b7 S n_b7
     simp only [BS,LB,Nat.reduceLT,Nat.reduceEqDiff,yB,yv,yC]
     refine az (S.store (i:=0) rfl ?_ ?_ rfl rfl ?_ ono) ?_
     . exact(by exact Tryz.s188)
     . exact(by intro x e;cases e)
     . exact lbt rfl
     clear S;rintro h ⟨S,mo⟩;clear mo;simp only [LC,ag,lay,xY,xZ,Nat.reduceAdd]at S
     simp only [BS,LB,Nat.reduceLT,Nat.reduceEqDiff,Tryz.FFt3151,r0,S.lds (b:=b7) (o:=0) (n:=6) m0 (lbt rfl)]
     have R:Row h bl _ 1:=S.row m1
     refine eG Y' (s.gr S.gr) (Y'.gr _ _ _ _ hj S.gr) (i:=3*i) (by rw [yl,show(plA n A)[3*i]? =_ from hp.1,hd];simp [iI]) ?_ ?_ ?_
     . intro h2 F2 a s2 mo2 hF2
       have R0:=R
       replace R:Row h2 bl _ 1:=R.of_get (mo2.get _ (R.lt S.ok) nF)
       have nF2:bl∉F2:=fun hm=>by
        rcases hF2 _ hm with hm|hm
        . exact nF hm
        . have:=R0.lt S.ok;omega
       have S:=Si s2.ok
       simp only [BS,LB,Nat.reduceLT,Nat.reduceEqDiff,Int.reduceAdd,w1]
       rw [bS]
       simp only [BS,LB,Nat.reduceLT,Nat.reduceEqDiff,Int.reduceToNat,Int.reduceLE,Int.reduceLT,ye,Nat.reduceMul,Tryz.FFt3151,R.load (o:=6) (n:=6) (lbt rfl)]
       refine ae aw S ?_;clear S;intro h b8 S n_b8
       simp only [BS,LB,Nat.reduceLT,Nat.reduceEqDiff,yD,yB,yv,yC]
       refine az (S.store (i:=0) rfl ?_ ?_ rfl rfl ?_ ono) ?_
       . exact(by exact Tryz.s188)
       . exact(by intro x e;cases e)
       . exact lbt rfl
       clear S;rintro h ⟨S,mo⟩;clear mo;simp only [LC,ag,lay,xY,xZ,Nat.reduceAdd]at S
       simp only [BS,LB,Nat.reduceLT,Nat.reduceEqDiff,Tryz.FFt3151,r0,S.lds (b:=b8) (o:=0) (n:=6) m0 (lbt rfl)]
       replace R:=R.gr S.gr
       refine eG Y' (s2.gr S.gr) (Y'.gr _ _ _ _ a S.gr) (i:=3*i+1) (by rw [yl,show(plA n A)[3*i+1]? =_ from hp.2.1,hd];simp [iI]) ?_ ?_ ?_
       . intro h3 F3 a s3 mo3 hF3
         replace R:Row h3 bl _ 1:=R.of_get (mo3.get _ (R.lt S.ok) nF2)
         have S:=Si s3.ok
         simp only [BS,LB,Nat.reduceLT,Nat.reduceEqDiff,Int.reduceAdd,w2]
         rw [bS]
         simp only [BS,LB,Nat.reduceLT,Nat.reduceEqDiff,Int.reduceToNat,Int.reduceLE,Int.reduceLT,ye,Nat.reduceMul,Tryz.FFt3151,R.load (o:=12) (n:=6) (lbt rfl)]
         refine ae aw S ?_;clear S;intro h b9 S n_b9
         simp only [BS,LB,Nat.reduceLT,Nat.reduceEqDiff,yD,yB,yv,yC]
         refine az (S.store (i:=0) rfl ?_ ?_ rfl rfl ?_ ono) ?_
         . exact(by exact Tryz.s188)
         . exact(by intro x e;cases e)
         . exact lbt rfl
         clear S;rintro h ⟨S,mo⟩;clear mo;simp only [LC,ag,lay,xY,xZ,Nat.reduceAdd]at S
         simp only [BS,LB,Nat.reduceLT,Nat.reduceEqDiff,Tryz.FFt3151,r0,S.lds (b:=b9) (o:=0) (n:=6) m0 (lbt rfl)]
         refine eG Y' (s3.gr S.gr) (Y'.gr _ _ _ _ a S.gr) (i:=3*i+2) (by rw [yl,show(plA n A)[3*i+2]? =_ from hp.2.2,hd];simp [iI]) ?_ ?_ ?_
         . intro h4 F4 a s4 mo4 hF4
           simp only [BS,LB,Nat.reduceLT,Nat.reduceEqDiff,Int.reduceAdd,w3]
           rw [bS]
           simp only [BS,LB,Nat.reduceLT,Nat.reduceEqDiff,Int.reduceLT,r13,w]
           exact ih (i+1) _ _ (by omega) ⟨by omega,F4,s4,a,by simp [aa,r0],by simp [aa,r3],by simp [aa,r11],by simp [aa,r12],by simp [aa]⟩
         . intro h' a _
           simp only [BS,LB,Nat.reduceLT,Nat.reduceEqDiff]
           exact iw rfl ⟨rfl,.inr (.inl ⟨_,rfl,a⟩)⟩
         . intro v h' a
           simp only [BS]
           exact iO (dy ⟨rfl,.inr (.inr ⟨_,rfl,a⟩)⟩)
       . intro h' a _
         simp only [BS,LB,Nat.reduceLT,Nat.reduceEqDiff]
         exact iw rfl ⟨rfl,.inr (.inl ⟨_,rfl,a⟩)⟩
       . intro v h' a
         simp only [BS]
         exact iO (dy ⟨rfl,.inr (.inr ⟨_,rfl,a⟩)⟩)
     . intro h' a _
       simp only [BS,LB,Nat.reduceLT,Nat.reduceEqDiff]
       exact iw rfl ⟨rfl,.inr (.inl ⟨_,rfl,a⟩)⟩
     . intro v h' a
       simp only [BS]
       exact iO (dy ⟨rfl,.inr (.inr ⟨_,rfl,a⟩)⟩)
   . simp only [BS,LB,Nat.reduceLT,r12,r13,aI,hlt]
     have:i=A.length:=by omega
     subst this
     exact dv (dy ⟨rfl,_,rfl,rfl,.inl ⟨_,F,rfl,by simpa [plA_len]using hj⟩⟩)
 . exact⟨by omega,F,s,hj,by simp [aa,ce],by simp [aa],by simp [aa],by simp [aa],by simp [aa]⟩
open Tryz in
def Tryz.FFt4114:=aj a1<|aj s1<|aj z1<|aj n1<|aj u2<|aj a2<|aj s2<|aj z2<|aj i2<|aj u3<|aj a3<|aj s3<|aj z3<|aj i3<|aj u25<|aj a25<|aj s25<|aj z25<|aj q25<|aj n25<|aj u28<|aj a28<|aj s28<|aj z28<|aj q28<|aj n28<|aj a30<|aj s30<|aj z30<|aj i30<|aj n30<|aj p30<|aj ff30<|aj d30<|aj u44<|aj a44<|aj s44<|aj z44<|aj i44<|aj a59<|aj s59<|aj z59<|aj i59<|aj n59<|aj p59<|aj ff59<|aj d59<|aj a182<|aj s182<|aj z182<|n182
open Tryz in
def Tryz.FFt4116:=aj a1<|aj s1<|aj z1<|aj n1<|aj u2<|aj a2<|aj s2<|aj z2<|aj i2<|aj u3<|aj a3<|aj s3<|aj z3<|aj i3<|aj u25<|aj a25<|aj s25<|aj z25<|aj q25<|aj n25<|aj u28<|aj a28<|aj s28<|aj z28<|aj q28<|aj n28<|aj a30<|aj s30<|aj z30<|aj i30<|aj n30<|aj p30<|aj ff30<|aj d30<|aj a59<|aj s59<|aj z59<|aj i59<|aj n59<|aj p59<|aj ff59<|aj d59<|aj a182<|aj s182<|aj z182<|n182
open Tryz in
def Tryz.FFt4120:=aj a1<|aj s1<|aj z1<|aj n1<|aj u2<|aj a2<|aj s2<|aj z2<|aj i2<|aj u3<|aj a3<|aj s3<|aj z3<|aj i3<|aj u25<|aj a25<|aj s25<|aj z25<|aj q25<|aj n25<|aj u28<|aj a28<|aj s28<|aj z28<|aj q28<|aj n28<|aj a30<|aj s30<|aj z30<|aj i30<|aj n30<|aj p30<|aj ff30<|aj d30<|aj u44<|aj a44<|aj s44<|aj z44<|aj i44<|aj a59<|aj s59<|aj z59<|aj i59<|aj n59<|aj p59<|aj ff59<|aj d59<|aj a182<|aj s182<|aj z182<|n182
open Tryz in
def Tryz.FFt4118:=aj a1<|aj s1<|aj z1<|aj n1<|aj u2<|aj a2<|aj s2<|aj z2<|aj i2<|aj u3<|aj a3<|aj s3<|aj z3<|aj i3<|aj u25<|aj a25<|aj s25<|aj z25<|aj q25<|aj n25<|aj u28<|aj a28<|aj s28<|aj z28<|aj q28<|aj n28<|aj a30<|aj s30<|aj z30<|aj i30<|aj n30<|aj p30<|aj ff30<|aj d30<|aj a59<|aj s59<|aj z59<|aj i59<|aj n59<|aj p59<|aj ff59<|aj d59<|aj a182<|aj s182<|aj z182<|n182
open Tryz in
def Tryz.FFt4121:=aj a1<|aj s1<|aj z1<|aj n1<|aj u2<|aj a2<|aj s2<|aj z2<|aj i2<|aj u3<|aj a3<|aj s3<|aj z3<|aj i3<|aj u25<|aj a25<|aj s25<|aj z25<|aj q25<|aj n25<|aj u28<|aj a28<|aj s28<|aj z28<|aj q28<|aj n28<|aj a30<|aj s30<|aj z30<|aj i30<|aj n30<|aj p30<|aj ff30<|aj d30<|aj a59<|aj s59<|aj z59<|aj i59<|aj n59<|aj p59<|aj ff59<|aj d59<|aj a182<|aj s182<|aj z182<|n182
theorem look1_ok{h0:Hp}(ok:h0.t.Sized h0.n){γ:Gra}(hγ:Good γ){vx vy va:Value}{b:Nat}(hb:Row h0 b [.int .i64 γ.nodes,vx,vy,va] 1):Ret xW 114 [ptrTo b] h0 fun v h'=>Gr h0 h'/\kM 0 h0.n v h':=by
 have S:=Si ok
 have n1:=hγ.n1
 have n2:=hγ.n2
 refine ac (n:=5) (rs:=[.tmp 1]) rfl Tryz.e114 rfl rfl rfl (lbt rfl) ?_
 simp only [BS,LB,Nat.reduceLT,Nat.reduceEqDiff,Tryz.FFt4114,hb.load1 (o:=0) rfl]
 refine step_ret (one_ok S.ok (by omega) (by omega)) ?_;intro v h ⟨g,t⟩;replace S:=S.call g;clear g
 simp only [BS,LB,ab,Nat.reduceLT,Nat.reduceEqDiff]
 exact⟨S.gr,t⟩
theorem look2_ok{h0:Hp}(ok:h0.t.Sized h0.n){γ:Gra}(hγ:Good γ){vx vy va:Value}(ga:cN h0 vx vy va γ){b:Nat}(hb:Row h0 b [.int .i64 γ.nodes,vx,vy,va] 1):Ret xW 116 [ptrTo b] h0 fun v h'=>Gr h0 h'/\kM 0 h0.n v h':=by
 have S:=Si ok
 refine ac (n:=4) (rs:=[.tmp 1]) rfl Tryz.e116 rfl rfl rfl (lbt rfl) ?_
 simp only [BS,LB,Nat.reduceLT,Nat.reduceEqDiff,Tryz.FFt4116,hb.load (o:=0) (n:=4) (lbt rfl)]
 refine step_ret (shapes_ok S.ok hγ ga) ?_;intro v h ⟨g,t⟩;replace S:=S.call g;clear g
 simp only [BS,LB,ab,Nat.reduceLT,Nat.reduceEqDiff]
 exact⟨S.gr,t⟩
theorem look4_ok{h0:Hp}(ok:h0.t.Sized h0.n){γ:Gra}(hγ:Good γ){vx vy va:Value}(ga:cN h0 vx vy va γ){b:Nat}(hb:Row h0 b [.int .i64 γ.nodes,vx,vy,va] 1):Ret xW 120 [ptrTo b] h0 fun v h'=>Gr h0 h'/\kM 0 h0.n v h':=by
 have S:=Si ok
 have n2:=hγ.many
 refine ac (n:=6) (rs:=[.tmp 1]) rfl Tryz.e120 rfl rfl rfl (lbt rfl) ?_
 simp only [BS,LB,Nat.reduceLT,Nat.reduceEqDiff,Tryz.FFt4120,hb.load1 (o:=3) rfl,ga.A.lenq]
 refine step_ret (one_ok S.ok (by omega) (by omega)) ?_;intro v h ⟨g,t⟩;replace S:=S.call g;clear g
 simp only [BS,LB,ab,Nat.reduceLT,Nat.reduceEqDiff]
 exact⟨S.gr,t⟩
theorem look3_ok{h0:Hp}(ok:h0.t.Sized h0.n){γ:Gra}(hγ:Good γ){vx vy va:Value}(ga:cN h0 vx vy va γ){b n0:Nat}(hX: ∀c,av vx c->c<n0)(hY: ∀c,av vy c->c<n0)(hb:Row h0 b [.int .i64 γ.nodes,vx,vy,va] 1):Ret xW 118 [ptrTo b] h0 fun v h'=>Gr h0 h'/\kM n0 h0.n v h':=by
 have S:=Si ok
 have n2:=hγ.n2
 have lX:=hγ.lX
 have lY:=hγ.lY
 refine ac (n:=4) (rs:=[.tmp 1]) rfl Tryz.e118 rfl rfl rfl (lbt rfl) ?_
 simp only [BS,LB,Nat.reduceLT,Nat.reduceEqDiff,Tryz.FFt4118,hb.load (o:=0) (n:=4) (lbt rfl)]
 refine step_ret (nodes_ok S.ok) ?_;intro v h ⟨g,b2,e,q2,R⟩;replace S:=S.call g;clear g
 subst e
 simp only [BS,LB,ab,Nat.reduceLT,Nat.reduceEqDiff]
 refine⟨S.gr,_,#[],#[ptrTo b2],_,_,rfl,wU S.ok R (ga.X.gr S.gr) (ga.Y.gr S.gr) (by omega) (by omega),fun p hp=>?_,fun c hc=>?_⟩
 . unfold plN at hp
   simp only [List.mem_flatMap,List.mem_range,List.mem_cons,List.not_mem_nil,or_false]at hp
   obtain⟨i,hi,rfl|rfl⟩:=hp
   . have:=hγ.cX γ.X[i] (yw hi)
     simp only [yc,yp hi,yx];omega
   . have hi':i<γ.Y.length:=by omega
     have:=hγ.cY γ.Y[i] (yw hi')
     simp only [yc,yp hi',yx];omega
 . rcases hc with rfl|hc|hc
   . exact .inr q2
   . exact .inl (hX c hc)
   . exact .inl (hY c hc)
theorem look5_ok{h0:Hp}(ok:h0.t.Sized h0.n){γ:Gra}(hγ:Good γ){vx vy va:Value}(ga:cN h0 vx vy va γ){b n0:Nat}(hA: ∀c,av va c->c<n0)(hb:Row h0 b [.int .i64 γ.nodes,vx,vy,va] 1):Ret xW 121 [ptrTo b] h0 fun v h'=>Gr h0 h'/\kM n0 h0.n v h':=by
 have S:=Si ok
 have n2:=hγ.many
 refine ac (n:=4) (rs:=[.tmp 1]) rfl Tryz.e121 rfl rfl rfl (lbt rfl) ?_
 simp only [BS,LB,Nat.reduceLT,Nat.reduceEqDiff,Tryz.FFt4121,hb.load (o:=0) (n:=4) (lbt rfl)]
 refine step_ret (arcs_ok S.ok) ?_;intro v h ⟨g,b2,e,q2,R⟩;replace S:=S.call g;clear g
 subst e
 simp only [BS,LB,ab,Nat.reduceLT,Nat.reduceEqDiff]
 refine⟨S.gr,_,#[],#[ptrTo b2],_,_,rfl,arcs_iter S.ok R (ga.A.gr S.gr) (by omega),fun p hp=>?_,fun c hc=>?_⟩
 . unfold plA at hp
   simp only [List.mem_flatMap,List.mem_range,List.mem_cons,List.not_mem_nil,or_false]at hp
   obtain⟨i,hi,h⟩:=hp
   have:=hγ.arcs γ.arcs[i] (yw hi)
   simp only [yc,yp hi,yx]at h
   rcases h with rfl|rfl|rfl<;>(simp only [];omega)
 . rcases hc with rfl|hc
   . exact .inr q2
   . exact .inl (hA c hc)
open Tryz in
def Tryz.FFt576:=aj a1<|aj s1<|aj z1<|aj n1<|aj u2<|aj a2<|aj s2<|aj z2<|aj i2<|aj u3<|aj a3<|aj s3<|aj z3<|aj i3<|aj u4<|aj a4<|aj s4<|aj z4<|aj n4<|aj u5<|aj a5<|aj s5<|aj z5<|aj i5<|aj u6<|aj a6<|aj s6<|aj z6<|aj i6<|aj a7<|aj s7<|aj z7<|aj i7<|aj n7<|aj p7<|aj ff7<|aj d7<|aj a8<|aj s8<|aj z8<|aj i8<|aj n8<|aj p8<|aj ff8<|aj d8<|aj u17<|aj a17<|aj s17<|aj z17<|aj q17<|aj i17<|aj n17<|aj a19<|aj s19<|aj z19<|aj i19<|aj n19<|aj p19<|aj ff19<|aj d19<|aj a20<|aj s20<|aj z20<|aj q20<|aj n20<|aj u25<|aj a25<|aj s25<|aj z25<|aj q25<|aj n25<|aj u28<|aj a28<|aj s28<|aj z28<|aj q28<|aj n28<|aj a30<|aj s30<|aj z30<|aj i30<|aj n30<|aj p30<|aj ff30<|aj d30<|aj u44<|aj a44<|aj s44<|aj z44<|aj i44<|aj a59<|aj s59<|aj z59<|aj i59<|aj n59<|aj p59<|aj ff59<|aj d59<|aj a78<|aj s78<|aj z78<|aj i78<|aj n78<|aj p78<|aj ff78<|aj d78<|aj u80<|aj a80<|aj s80<|aj z80<|aj q80<|aj i80<|aj n80<|aj a140<|aj s140<|aj z140<|aj i140<|aj n140<|aj p140<|aj ff140<|aj d140<|aj a182<|aj s182<|aj z182<|aj n182<|aj a184<|aj s184<|aj z184<|aj n184<|aj u186<|aj a186<|aj s186<|aj z186<|aj q186<|aj n186<|aj a188<|aj s188<|aj z188<|aj i188<|aj n188<|aj p188<|aj ff188<|aj d188<|aj a285<|aj s285<|aj z285<|aj i285<|aj n285<|aj p285<|aj ff285<|d285
theorem look_ok {h0:Hp} (ok:h0.t.Sized h0.n) {γ:Gra} (hγ:Good γ) {vx vy va:Value} (ga:cN h0 vx vy va γ):Ret xW 76 [gH γ vx vy va] h0 fun v h'=>Gr h0 h':=by
 have S:=Si ok
 refine ac (n:=44) (rs:=[]) rfl Tryz.e76 rfl rfl rfl (lbt rfl) ?_
 simp only [BS,Nat.reduceLT,gH]
 refine ae (bE (by intro x e;cases e)) S ?_;clear S;intro h b S n_b;simp only [ag]at S
 simp only [BS,LB,Nat.reduceLT,Nat.reduceEqDiff]
 refine ae (bL (by exact Tryz.u186) (by exact Tryz.e184E) (by decide) (by rfl)) S ?_;clear S;intro h bs S n_bs;simp only [LC,aU,bI,ag,Nat.reduceMul,Nat.reduceAdd,yd,yb,yh,yi]at S
 simp only [BS,LB,Nat.reduceLT,Nat.reduceEqDiff,ye,Tryz.FFt576]
 have hq: ∀i,i<5-> ∃g a c,[Value.func (.func 114) #[] #[.pointer (some ⟨b,0,none⟩)],.func (.func 116) #[] #[.pointer (some ⟨b,0,none⟩)],.func (.func 118) #[] #[.pointer (some ⟨b,0,none⟩)],.func (.func 120) #[] #[.pointer (some ⟨b,0,none⟩)],.func (.func 121) #[] #[.pointer (some ⟨b,0,none⟩)]][i]? =some (.func (.func g) a c)/\
  ∀h',Gr h h'->Ret xW g (a.toList++c.toList) h' fun v h''=>Gr h' h''/\kM h0.n h'.n v h'':=by
  intro i hi
  have hr:=S.row (b:=b) m1
  have ga':=ga.gr S.gr
  have wk: ∀h' v h'',Gr h' h''/\kM 0 h'.n v h''->Gr h' h''/\kM h0.n h'.n v h'':=by
   rintro h' v h'' ⟨a,gi,a1,a2,ps,D,b1,b2,b3,b4⟩
   exact⟨a,gi,a1,a2,ps,D,b1,b2,b3,fun c hc=>(b4 c hc).elim (fun h=>by omega) .inr⟩
  match i,hi with
  |0,_=>exact⟨_,_,_,rfl,fun h' g=>nT (look1_ok g.ok hγ (hr.gr g)) (wk h')⟩
  |1,_=>exact⟨_,_,_,rfl,fun h' g=>nT (look2_ok g.ok hγ (ga'.gr g) (hr.gr g)) (wk h')⟩
  |2,_=>exact⟨_,_,_,rfl,fun h' g=>look3_ok g.ok hγ (ga'.gr g) (fun c hc=>ga.X.lt ok hc) (fun c hc=>ga.Y.lt ok hc) (hr.gr g)⟩
  |3,_=>exact⟨_,_,_,rfl,fun h' g=>nT (look4_ok g.ok hγ (ga'.gr g) (hr.gr g)) (wk h')⟩
  |4,_=>exact⟨_,_,_,rfl,fun h' g=>look5_ok g.ok hγ (ga'.gr g) (fun c hc=>ga.A.lt ok hc) (hr.gr g)⟩
 have Rs:=S.row (b:=bs) m0
 have g0:=S.gr
 have ok1:=S.ok
 clear S ga ok
 revert hq Rs
 generalize [Value.func (.func 114) #[] #[.pointer (some ⟨b,0,none⟩)],.func (.func 116) #[] #[.pointer (some ⟨b,0,none⟩)],.func (.func 118) #[] #[.pointer (some ⟨b,0,none⟩)],.func (.func 120) #[] #[.pointer (some ⟨b,0,none⟩)],.func (.func 121) #[] #[.pointer (some ⟨b,0,none⟩)]]=fs
 intro hq Rs
 rename Hp=>h1
 have lt1:=Rs.lt ok1
 have ge1:=g0.n
 have S:=Si ok1
 refine oB (fun(i:Nat) ρ d h'=>i<=5/\ ∃dbs:List Nat,d=dbs.map nV/\St NoM h1 h' (dG dbs) []/\ρ 10=.slice (some ⟨bs,0,none⟩) 5 5/\ρ 11=.int .i64 5/\ρ 12=.int .i64 i) (fun i=>5-i) ?_ 0 _ _ _ ?_
 . clear S
   intro i ih ρ d h ⟨hi,dbs,hd,S,r10,r11,r12⟩
   have w:au .i64 ((i:Int)+1)=((i+1:Nat):Int):=by rw [wrap64]<;>omega
   by_cases hlt:i<5
   . obtain⟨g,a,c,hfi,hr⟩:=hq i hlt
     have Rl:=(Rs.gr S.gr).load1 hfi
     have hlt':(i:Int)<5:=by omega
     simp only [BS,LB,Nat.reduceLT,Nat.reduceEqDiff,Tryz.FFt576,r10,r11,r12,hlt',hlt,Rl]
     refine ae aw S ?_;clear S;intro h b2 S n_b2
     simp only [BS,LB,Nat.reduceLT,Nat.reduceEqDiff]
     refine az (aB S (i:=0) rfl ?_ ?_ ?_ ono) ?_
     . exact(by simp only [Tryz.FFt576])
     . exact(by exact bw)
     . exact ya (lbt rfl)
     clear S;rintro h ⟨S,mo⟩;clear mo;simp only [LC,ag,lay,xY,xZ,Nat.reduceAdd]at S
     simp only [BS,LB,Nat.reduceLT,Nat.reduceEqDiff]
     replace S:=S.drop1
     have kl: ∀b∈keys (dG dbs) [],b<h.n:=fun b hb=>S.key_lt hb
     refine step_ret (hr _ S.gr) ?_;intro v h ⟨g,gi,a2,post,ps,D,e,it,hps,hD⟩;replace S:=S.call g;clear g
     subst e
     simp only [BS]
     refine g8 S (g:=gi) (a:=a2) (b:=post) (by simp [bK,aa]) rfl rfl ?_
     intro h2 db lb S' hdb hlb g2
     obtain⟨X,hX,S'⟩: ∃X:eo,X=_/\St NoM h1 h2 ((lb,.loop X)::(db,.dfr)::dG dbs) []:=⟨_,rfl,S'⟩
     have hJ:Yld xW lb (fun _ h' F=>St NoM h1 h' ((lb,.loop X)::(db,.dfr)::dG dbs) []/\F=keys ((lb,.loop X)::(db,.dfr)::dG dbs) []) (fun _ _=>False) (ps.map fun p=>[.agg ⟨iI p⟩]):=by
      refine⟨?_,?_,fun _ _ h=>h.elim,?_⟩
      . rintro i h F ⟨S,rfl⟩;exact⟨S.ok,fun b hb=>S.key_lt hb⟩
      . rintro i h F h' ⟨S,rfl⟩ g;exact⟨S.call g,rfl⟩
      . rintro i x h F hx ⟨S,rfl⟩
        obtain⟨p,hp,rfl⟩: ∃p∈ps,x=[.agg ⟨iI p⟩]:=by
         rw [yl,Option.map_eq_some_iff]at hx
         obtain⟨p,h1,h2⟩:=hx
         exact⟨p,yu h1,h2.symm⟩
        obtain⟨p1,p2⟩:=hps p hp
        have p1': ¬p.n<p.lo:=by omega
        have p2': ¬p.hi<=p.n:=by omega
        subst hX
        refine hI (S.get m0) (by rw [Tryz.e76];rfl) rfl ?_
        have S0:=S
        replace S:=S.base
        simp only [BS,Tryz.FFt576]
        refine ae aw S ?_;clear S;intro h b4 S n_b4
        simp only [BS,LB,Nat.reduceLT,Nat.reduceEqDiff,iI]
        refine az (S.store (i:=0) rfl ?_ ?_ rfl rfl ?_ ono) ?_
        . exact(by exact Tryz.s188)
        . exact(by intro x e;cases e)
        . exact lbt rfl
        clear S;rintro h ⟨S,mo⟩;clear mo;simp only [LC,ag,lay,xY,xZ,Nat.reduceAdd]at S
        simp only [BS]
        refine gp S (i:=1) rfl rfl rfl rfl rfl ?_
        clear S;intro h S
        simp only [BS,LB,Nat.reduceLT,Nat.reduceEqDiff,Tryz.FFt576,p1',p2',S.ld (b:=b4) (o:=3) m0 rfl,S.ld (b:=b4) (o:=4) m0 rfl,S.ld (b:=b4) (o:=5) m0 rfl]
        refine dY S (i:=1) rfl ?_
        clear S;intro h S
        exact .inl ⟨rfl,_,⟨S0.rebase S.drop1,rfl⟩,S.fr,S.drop1.key_new⟩
     refine fg (vv it hJ (h:=h2) (F:=keys ((lb,.loop _)::(db,.dfr)::dG dbs) []) g2.fr (fun b hb hlt=>?_) ⟨S',rfl⟩) fun o rc h' y=>jJ y ?_
     . intro hd
       have hS:=S'.key_own hb
       rcases hD b hd with hh|hh
       . rcases hS with hS|hS
         . omega
         . exact hS
       . rcases List.mem_cons.1 hb with rfl|hb
         . omega
         . rcases List.mem_cons.1 hb with rfl|hb
           . omega
           . have:=kl b hb;omega
     . rintro F ⟨S,rfl⟩
       subst hX
       refine⟨_,S.get m0,Nat.zero_ne_one,?_⟩
       replace S:=S.dead
       show Run _ _ _ _ _ _ _ _
       simp only [BS,LB,Nat.reduceLT,Nat.reduceEqDiff,r12,w]
       exact ih (i+1) _ _ _ (by omega) ⟨by omega,db::dbs,by rw [hd];rfl,S,by simp [aa,r10],by simp [aa,r11],by simp [aa]⟩
   . have hlt': ¬(i:Int)<5:=by omega
     simp only [BS,LB,Nat.reduceLT,r11,r12,hlt']
     subst hd
     refine dv (iD dbs h (L:=[]) (by rw [List.append_nil];exact S) fun h' S'=>⟨rfl,_,rfl,g0.trans S'.gr⟩)
 . exact⟨by omega,[],rfl,S,by simp [aa],by simp [aa],by simp [aa]⟩
end Go.Ab
end
section
namespace Go.Ab
theorem aA.form{α:Type}{h:Hp}{k:Nat}{enc:α->List Value}{v:Value}{xs:List α}(s:aA h k enc v xs): ∃a n c,v=.slice a n c:=by
 rcases s with⟨rfl,_⟩|⟨b,o,s,c,rfl,_⟩<;>exact⟨_,_,_,rfl⟩
section
variable{M:Nat->Prop}{h0 h:Hp}{E:Env}{L:List (Nat×Ob)}{G:List GL}
def WrK{α:Type}(h:Hp)(k:Nat)(enc:α->List Value)(w:Value)(l:List α):Prop:=l≠ []-> ∃b,w=.slice (some ⟨b,0,some k⟩) l.length l.length/\Row h b (l.flatMap enc) 1
theorem WrK.mo{α:Type}{M:Nat->Prop}{h h':Hp}{k:Nat}{enc:α->List Value}{w:Value}{l:List α}(r:WrK h k enc w l)(g:Mo M h h')(hm: ∀b,av w b-> ¬M b):WrK h' k enc w l:=
 fun hl=>by obtain⟨b,e,k⟩:=r hl;exact⟨b,e,g.has (o:=.row _ 1) k (hm b (by rw [e];rfl))⟩
theorem St.cloneW{α:Type}{enc:α->List Value}{ys:List α}(S:St M h0 h L G){t tx e:TypeId}{by_ k md:Nat}{zs:List Value}{b:Nat}{x:Value}(hu:E.und t=some (.slice e))(he:dN E e by_ k zs)(hb:0<by_)
 (hx:ax E tx=some false) (hs:aA h k enc x ys) (hen: ∀x,(enc x).length=k) (hk:0<k) (hsz:(ys.length*k)*(by_+1)<=70368744177664) {ts:List TypeId}
 (hl:Row h b [] md):
 ∃h' v',c9 E h (t::tx::ts) (.slice (some ⟨b,0,none⟩) 0 0) x=some (h',v')/\St M h0 h' L G/\Gr h h'/\aA h' k enc v' ys/\(∀c,av v' c->c=b\/h.n<=c)/\WrK h' k enc v' ys:=by
 obtain⟨h',v',h1,h2,h3,h4,h5⟩:=S.cloneSl (enc:=enc) (xs:=[]) hu he hb hx hs hen hk (by simpa using hsz) (ts:=ts) (b:=b) (md:=md) (by simpa using hl)
 refine⟨h',v',h1,h2,h3,by simpa using h4,h5,fun hne=>?_⟩
 obtain⟨h'',v'',k1,k2⟩:=S.clone hu he hb hx hs.src (bj hen ys).symm (n:=0) (by simp) hk (by rw [bj hen];simpa using hsz) (ts:=ts) hl
 have h1':c9 E h (t::tx::ts) (.slice (some ⟨b,0,none⟩) 0 0) x=some (h',v'):=h1
 rw [h1']at k1
 cases k1
 rcases k2 with⟨hm,_⟩|⟨b',e1,T⟩
 . exact absurd (List.length_eq_zero_iff.1 hm) hne
 . refine⟨b',by rw [e1,yb],?_⟩
   have:=T.row (b:=b') m0
   simpa using this
end
end Go.Ab

end
section
namespace Go.Ab
open Go.Proofs
set_option maxRecDepth 10000
open Tryz in
def Tryz.FFt675:=aj a1<|aj s1<|aj z1<|aj n1<|aj u2<|aj a2<|aj s2<|aj z2<|aj i2<|aj u3<|aj a3<|aj s3<|aj z3<|aj i3<|aj u4<|aj a4<|aj s4<|aj z4<|aj n4<|aj u5<|aj a5<|aj s5<|aj z5<|aj i5<|aj a20<|aj s20<|aj z20<|aj q20<|aj n20<|aj a34<|aj s34<|aj z34<|aj q34<|aj n34<|aj a78<|aj s78<|aj z78<|aj i78<|aj n78<|aj p78<|aj ff78<|aj d78<|aj u80<|aj a80<|aj s80<|aj z80<|aj q80<|aj i80<|aj n80<|aj a140<|aj s140<|aj z140<|aj i140<|aj n140<|aj p140<|aj ff140<|d140
open Tryz in
def Tryz.FFt630:=aj a1<|aj s1<|aj z1<|aj n1<|aj u2<|aj a2<|aj s2<|aj z2<|aj i2<|aj u3<|aj a3<|aj s3<|aj z3<|aj i3<|aj u25<|aj a25<|aj s25<|aj z25<|aj q25<|aj n25<|aj u28<|aj a28<|aj s28<|aj z28<|aj q28<|aj n28<|aj a30<|aj s30<|aj z30<|aj i30<|aj n30<|aj p30<|aj ff30<|aj d30<|aj a34<|aj s34<|aj z34<|aj q34<|aj n34<|aj a59<|aj s59<|aj z59<|aj i59<|aj n59<|aj p59<|aj ff59<|d59
open Tryz in
def Tryz.FFt681:=aj a1<|aj s1<|aj z1<|aj n1<|aj u2<|aj a2<|aj s2<|aj z2<|aj i2<|aj u3<|aj a3<|aj s3<|aj z3<|aj i3<|aj u4<|aj a4<|aj s4<|aj z4<|aj n4<|aj u25<|aj a25<|aj s25<|aj z25<|aj q25<|n25
open Tryz in
def Tryz.FFt682:=aj a1<|aj s1<|aj z1<|aj n1<|aj u2<|aj a2<|aj s2<|aj z2<|aj i2<|aj u3<|aj a3<|aj s3<|aj z3<|aj i3<|aj u4<|aj a4<|aj s4<|aj z4<|aj n4<|aj u28<|aj a28<|aj s28<|aj z28<|aj q28<|aj n28<|aj a59<|aj s59<|aj z59<|aj i59<|aj n59<|aj p59<|aj ff59<|d59
theorem check1_ok{h0:Hp}(ok:h0.t.Sized h0.n){b:Nat}:eN xW 75 [ptrTo b] none h0 fun o rc h'=>(∃v,o=.ret v)/\rc=none/\Gr h0 h':=by
 have S:=Si ok
 refine enter (n:=17) (rs:=[]) rfl Tryz.e75 rfl rfl rfl (lbt rfl) ?_
 simp only [BS,LB,Nat.reduceLT,Nat.reduceEqDiff,Tryz.FFt675]
 exact dv (dy ⟨rfl,_,rfl,⟨_,rfl⟩,rfl,S.gr⟩)
theorem check_ok{h0:Hp}(ok:h0.t.Sized h0.n){γ:Gra}(hγ:Good γ){vx vy va:Value}(ga:cN h0 vx vy va γ):bC xW 30 [gH γ vx vy va] h0 .nilIface:=by
 have S:=Si ok
 refine ac (n:=6) (rs:=[.cell 2 34]) rfl Tryz.e30 rfl rfl rfl (lbt rfl) ?_
 simp only [BS,Nat.reduceLT,gH]
 refine ae (bE (by intro x e;cases e)) S ?_;clear S;intro h b S n_b;simp only [ag]at S
 simp only [BS,Tryz.FFt630]
 refine ae aw S ?_;clear S;intro h b2 S n_b2
 simp only [BS,LB,Nat.reduceLT,Nat.reduceEqDiff,Tryz.FFt630,S.lds (b:=b) (o:=0) (n:=4) m1 (lbt rfl)]
 refine step_ret (look_ok S.ok hγ (ga.gr S.gr)) ?_;intro v h g;replace S:=S.call g;clear g
 simp only [BS,LB,Nat.reduceLT,Nat.reduceEqDiff]
 refine az (aB S (i:=0) rfl ?_ ?_ ?_ ono) ?_
 . exact(by simp only [Tryz.FFt630])
 . exact(by exact fl_nili)
 . exact ya (lbt rfl)
 clear S;rintro h ⟨S,mo⟩;clear mo;simp only [LC,ag,lay,xY,xZ,Nat.reduceAdd]at S
 simp only [BS]
 refine eJ (un_fn (fg (check1_ok S.ok) fun o rc h' ⟨a,b,g⟩=>⟨a,b,dy ⟨rfl,?_⟩⟩))
 replace S:=S.call g
 have l:=S.ld (b:=b2) (o:=0) m0 rfl
 exact⟨_,pJ (by decide) (by simp only [aK,ah,Nat.reduceEqDiff,reduceIte];exact ii Tryz.a34 l),rfl,S.gr⟩
theorem rM{h0:Hp}(ok:h0.t.Sized h0.n){v:Value}{xs:List Int}(hs:aA h0 1 (encI .i64) v xs)(hl:xs.length<1000000):Ret xW 81 [v] h0 fun r h'=>Gr h0 h'/\aA h' 1 (encI .i64) r xs/\ ∀c,av r c->h0.n<=c:=by
 have S:=Si ok
 rcases hs with⟨rfl,rfl⟩|⟨b,o,s,c,rfl,h2,h3⟩
 . refine ac (n:=8) (rs:=[.tmp 2]) rfl Tryz.e81 rfl rfl rfl (lbt rfl) ?_
   simp only [BS,LB,ab,Nat.reduceLT,Nat.reduceEqDiff,Tryz.FFt681]
   exact⟨S.gr,.inl ⟨rfl,rfl⟩,fun c hc=>hc.elim⟩
 . refine ac (n:=8) (rs:=[.tmp 2]) rfl Tryz.e81 rfl rfl rfl (lbt rfl) ?_
   simp only [BS,LB,Nat.reduceLT,Nat.reduceEqDiff,Tryz.FFt681]
   refine ae (bL (by exact Tryz.u25) (by exact Tryz.e2E) (by decide) (by rfl)) S ?_;clear S;intro h bb S n_bb;simp only [LC,aU,bI,ag,Nat.reduceMul,Nat.reduceAdd,yd,yb,yh,yi]at S
   simp only [BS,LB,Nat.reduceLT,Nat.reduceEqDiff]
   refine eK (S.cloneSl (enc:=encI .i64) (xs:=[]) Tryz.u25 Tryz.e2E (by decide) Tryz.n25 (.inr ⟨b,o,s,c,rfl,h2,S.old h3 (fun h=>h)⟩) (fun x=>rfl) (by decide) (by simp only [List.length_nil,yb];omega) (S.row m0)) ?_
   rintro h' v ⟨S',g,sl,hc⟩
   simp only [BS,LB,ab,Nat.reduceLT,Nat.reduceEqDiff]
   refine⟨S'.gr,by simpa using sl,fun c h=>(hc c h).elim (fun e=>by omega) (fun e=>yq S.fr.n e)⟩
theorem vK{h0:Hp}(ok:h0.t.Sized h0.n){v:Value}{xs:List Arc}(hs:aA h0 3 (cI) v xs)(hl:xs.length<1000000):Ret xW 82 [v] h0 fun r h'=>Gr h0 h'/\aA h' 3 (cI) r xs/\(∀c,av r c->h0.n<=c)/\WrK h' 3 cI r xs:=by
 have S:=Si ok
 rcases hs with⟨rfl,rfl⟩|⟨b,o,s,c,rfl,h2,h3⟩
 . refine ac (n:=8) (rs:=[.tmp 2]) rfl Tryz.e82 rfl rfl rfl (lbt rfl) ?_
   simp only [BS,LB,ab,Nat.reduceLT,Nat.reduceEqDiff,Tryz.FFt682]
   exact⟨S.gr,.inl ⟨rfl,rfl⟩,fun c hc=>hc.elim,fun h=>absurd rfl h⟩
 . refine ac (n:=8) (rs:=[.tmp 2]) rfl Tryz.e82 rfl rfl rfl (lbt rfl) ?_
   simp only [BS,LB,Nat.reduceLT,Nat.reduceEqDiff,Tryz.FFt682]
   refine ae (bL (by exact Tryz.u28) (by exact Tryz.e59E) (by decide) (by rfl)) S ?_;clear S;intro h bb S n_bb;simp only [LC,aU,bI,ag,Nat.reduceMul,Nat.reduceAdd,yd,yb,yh,yi]at S
   simp only [BS,LB,Nat.reduceLT,Nat.reduceEqDiff]
   refine eK (S.cloneW (enc:=cI) (ys:=xs) Tryz.u28 Tryz.e59E (by decide) Tryz.n28 (.inr ⟨b,o,s,c,rfl,h2,S.old h3 (fun h=>h)⟩) (fun x=>rfl) (by decide) (by omega) (S.row m0)) ?_
   rintro h' v ⟨S',g,sl,hc,w⟩
   simp only [BS,LB,ab,Nat.reduceLT,Nat.reduceEqDiff]
   exact⟨S'.gr,sl,fun c h=>(hc c h).elim (fun e=>by omega) (fun e=>yq S.fr.n e),w⟩
open Tryz in
def Tryz.FFt751:=aj a1<|aj s1<|aj z1<|aj n1<|aj u2<|aj a2<|aj s2<|aj z2<|aj i2<|aj u3<|aj a3<|aj s3<|aj z3<|aj i3<|aj u4<|aj a4<|aj s4<|aj z4<|aj n4<|aj u5<|aj a5<|aj s5<|aj z5<|aj i5<|aj u22<|aj a22<|aj s22<|aj z22<|aj q22<|aj n22<|aj u61<|aj a61<|aj s61<|aj z61<|aj q61<|aj i61<|aj n61<|aj a63<|aj s63<|aj z63<|aj i63<|aj n63<|aj p63<|aj ff63<|d63
structure DrAt(h:Hp)(bd:Nat)(vB:Value)(xs:List Int)(a:Nat):Prop where
 sl:aA h 1 (encI .u8) vB xs
 ne: ¬av vB bd
 few:xs.length<1000000
 at_:a<100000
theorem fC{h0:Hp}(ok:h0.t.Sized h0.n){bd a n:Nat}{vB:Value}{xs:List Int}(hr:Row h0 bd [vB,.int .i64 a] 1)(hd:DrAt h0 bd vB xs a)(hn:1<=n)(hn2:n<1000):
 Ret xW 51 [ptrTo bd,.int .i64 n] h0 fun v h'=>Mo (· =bd) h0 h'/\ ∃r a':Nat,v=.int .i64 r/\r<n/\a'<=a+1/\Row h' bd [vB,.int .i64 a'] 1:=by
 have S:=St.init1 ok (o:=.row [vB,.int .i64 a] 1) hr
 obtain⟨hs,hne,hx,ha⟩:=hd
 have fl:=hs.fl
 have w1:au .i64 ((a:Int)+1)=((a+1:Nat):Int):=by rw [wrap64]<;>omega
 have w2:au .i64 (((a+1:Nat):Int)-1)=(a:Int):=by rw [wrap64]<;>omega
 have c1: ¬(n:Int)<1:=by omega
 by_cases h0':xs.length=0
 . have c0:(xs.length:Int)=0:=by omega
   refine ac (n:=55) (rs:=[.tmp 4]) rfl Tryz.e51 rfl rfl rfl (lbt rfl) ?_
   simp only [BS,LB,ab,Nat.reduceLT,Nat.reduceEqDiff,Tryz.FFt751,hs.lenq,c0,S.ld (b:=bd) (o:=0) m0 rfl]
   exact⟨S.fr,0,a,rfl,by omega,by omega,S.row m0⟩
 . have c0: ¬(xs.length:Int)=0:=by omega
   have hmod:a%xs.length<xs.length:=Nat.mod_lt _ (by omega)
   have tm:(a:Int).tmod (xs.length:Int)=((a%xs.length:Nat):Int):=by rw [yn (by omega)];exact(Int.natCast_emod _ _).symm
   refine ac (n:=55) (rs:=[.tmp 4]) rfl Tryz.e51 rfl rfl rfl (lbt rfl) ?_
   simp only [BS,LB,Nat.reduceLT,Nat.reduceEqDiff,Tryz.FFt751,hs.lenq,c0,c1,w1,S.ld (b:=bd) (o:=0) m0 rfl,S.ld (b:=bd) (o:=1) m0 rfl]
   refine az (aB S (i:=0) rfl ?_ ?_ ?_ ono) ?_
   . exact(by simp only [Tryz.FFt751])
   . exact(by exact bw)
   . exact ya (lbt rfl)
   clear S;rintro h ⟨S,mo⟩;clear mo;simp only [LC,ag,lay,xY,xZ,Nat.reduceAdd]at S
   have hs':aA h 1 (encI .u8) vB xs:=hs.mo S.fr (fun b hb e=>hne (e▸hb))
   obtain⟨c,o,hidx,hld⟩:=hs'.ix (kd:=.i64) (dJ _) hmod
   have cz:(xs.length:Int)≠0:=c0
   have cn:(n:Int)≠0:=by omega
   simp only [BS]
   refine aC (aH rfl) (q:=0) (ps:=[]) (by kernel_rfl) ?_
   simp only [BS,LB,jd,bU,jh,cls,ab,Nat.reduceLT,Nat.reduceEqDiff,Nat.reduceAdd,Nat.reducePow,Nat.reduceDiv,Nat.reduceMod,Nat.reduceLeDiff,Tryz.FFt751,hs'.lenq,w2,px cz,o9 cz,px cn,tm,hidx,hld,encI,S.ld (b:=bd) (o:=0) m0 rfl,S.ld (b:=bd) (o:=1) m0 rfl]
   have key: ∀z:Int,∃r:Nat,(au .i64 (au .u8 z)).tmod (n:Int)=(r:Int)/\r<n:=by
    intro z
    have h8:=wrap8 z
    rw [wrap64 (by omega) (by omega),yn (by omega)]
    have h1:=Int.emod_nonneg (au .u8 z) cn
    have h2:=Int.emod_lt_of_pos (au .u8 z) (show(0:Int)<n by omega)
    exact⟨(au .u8 z%n).toNat,by omega,by omega⟩
   obtain⟨r,e,hr⟩:=key _
   rw [e]
   exact⟨S.fr,r,a+1,rfl,hr,yA _,S.row m0⟩
theorem DrAt.mo{h h':Hp}{bd:Nat}{vB:Value}{xs:List Int}{a a':Nat}(d:DrAt h bd vB xs a)(f:Mo (· =bd) h h')(ha:a'<100000):DrAt h' bd vB xs a':=
 ⟨d.sl.mo f (fun b hb e=>d.ne (e▸hb)),d.ne,d.few,ha⟩
theorem DrAt.gr{h h':Hp}{bd:Nat}{vB:Value}{xs:List Int}{a:Nat}(d:DrAt h bd vB xs a)(g:Gr h h'):DrAt h' bd vB xs a:=⟨d.sl.gr g,d.ne,d.few,d.at_⟩
theorem sU{h0:Hp}(ok:h0.t.Sized h0.n){bd a:Nat}{vB:Value}{xs:List Int}(hr:Row h0 bd [vB,.int .i64 a] 1)(hd:DrAt h0 bd vB xs a)(ha:a+2<100000):
 Ret xW 52 [ptrTo bd] h0 fun v h'=>Mo (· =bd) h0 h'/\ ∃r a':Nat,v=.int .i64 r/\r<=2147483647/\a'<=a+2/\Row h' bd [vB,.int .i64 a'] 1:=by
 have S:=St.init1 ok (o:=.row [vB,.int .i64 a] 1) hr
 refine ac (n:=24) (rs:=[.tmp 2]) rfl Tryz.e52 rfl rfl rfl (lbt rfl) ?_
 simp only [BS,LB,Nat.reduceLT,Nat.reduceEqDiff]
 refine step_ret (fC (n:=12) S.ok (S.row m0) hd (by omega) (by omega)) ?_
 rintro v h ⟨f,r,a1,rfl,hr1,ha1,R1⟩
 replace S:=S.call1 (i:=0) rfl f (o':=.row _ _) R1
 have hd1:DrAt h bd vB xs a1:=hd.mo f (by omega)
 simp only [LC]at S
 by_cases c1:(r:Int)<3
 . simp only [BS,LB,ab,Nat.reduceLT,Nat.reduceEqDiff,c1]
   exact⟨S.fr,0,a1,rfl,by omega,by omega,S.row m0⟩
 . by_cases c2:(r:Int)<10
   . simp only [BS,LB,Nat.reduceLT,Nat.reduceEqDiff,c1,c2]
     refine step_ret (fC (n:=9) S.ok (S.row m0) hd1 (by omega) (by omega)) ?_
     rintro v h ⟨f,r2,a2,rfl,hr2,ha2,R2⟩
     replace S:=S.call1 (i:=0) rfl f (o':=.row _ _) R2
     simp only [LC]at S
     have w1:au .i64 (1+(r2:Int))=((1+r2:Nat):Int):=by rw [wrap64]<;>omega
     simp only [BS,LB,ab,Nat.reduceLT,Nat.reduceEqDiff,w1]
     exact⟨S.fr,1+r2,a2,rfl,by omega,by omega,S.row m0⟩
   . by_cases c3:(r:Int)<11
     . simp only [BS,LB,Nat.reduceLT,Nat.reduceEqDiff,c1,c2,c3]
       refine step_ret (fC (n:=20) S.ok (S.row m0) hd1 (by omega) (by omega)) ?_
       rintro v h ⟨f,r2,a2,rfl,hr2,ha2,R2⟩
       replace S:=S.call1 (i:=0) rfl f (o':=.row _ _) R2
       simp only [LC]at S
       have w1:au .i64 (100*(r2:Int))=((100*r2:Nat):Int):=by rw [wrap64]<;>omega
       simp only [BS,LB,ab,Nat.reduceLT,Nat.reduceEqDiff,w1]
       exact⟨S.fr,100*r2,a2,rfl,by omega,by omega,S.row m0⟩
     . simp only [BS,LB,Nat.reduceLT,Nat.reduceEqDiff,c1,c2,c3]
       refine step_ret (fC (n:=2) S.ok (S.row m0) hd1 (by omega) (by omega)) ?_
       rintro v h ⟨f,r2,a2,rfl,hr2,ha2,R2⟩
       replace S:=S.call1 (i:=0) rfl f (o':=.row _ _) R2
       simp only [LC]at S
       have w1:au .i64 (2147483647-(r2:Int))=((2147483647-r2:Nat):Int):=by rw [wrap64]<;>omega
       simp only [BS,LB,ab,Nat.reduceLT,Nat.reduceEqDiff,w1]
       exact⟨S.fr,2147483647-r2,a2,rfl,by omega,by omega,S.row m0⟩
open Tryz in
def Tryz.FFt820:=aj a1<|aj s1<|aj z1<|aj n1<|aj u2<|aj a2<|aj s2<|aj z2<|aj i2<|aj u3<|aj a3<|aj s3<|aj z3<|aj i3<|aj u4<|aj a4<|aj s4<|aj z4<|aj n4<|aj u5<|aj a5<|aj s5<|aj z5<|aj i5<|aj u6<|aj a6<|aj s6<|aj z6<|aj i6<|aj a7<|aj s7<|aj z7<|aj i7<|aj n7<|aj p7<|aj ff7<|aj d7<|aj a8<|aj s8<|aj z8<|aj i8<|aj n8<|aj p8<|aj ff8<|aj d8<|aj u9<|aj a9<|aj s9<|aj z9<|aj n9<|aj u10<|aj a10<|aj s10<|aj z10<|aj n10<|aj u11<|aj a11<|aj s11<|aj z11<|aj n11<|aj u12<|aj a12<|aj s12<|aj z12<|aj i12<|aj a13<|aj s13<|aj z13<|aj i13<|aj n13<|aj p13<|aj ff13<|aj d13<|aj a14<|aj s14<|aj z14<|aj i14<|aj n14<|aj p14<|aj ff14<|aj d14<|aj u15<|aj a15<|aj s15<|aj z15<|aj q15<|aj i15<|aj n15<|aj u16<|aj a16<|aj s16<|aj z16<|aj q16<|aj i16<|aj n16<|aj u17<|aj a17<|aj s17<|aj z17<|aj q17<|aj i17<|aj n17<|aj a18<|aj s18<|aj z18<|aj i18<|aj n18<|aj p18<|aj ff18<|aj d18<|aj a19<|aj s19<|aj z19<|aj i19<|aj n19<|aj p19<|aj ff19<|aj d19<|aj a20<|aj s20<|aj z20<|aj q20<|aj n20<|aj u21<|aj a21<|aj s21<|aj z21<|aj i21<|aj u22<|aj a22<|aj s22<|aj z22<|aj q22<|aj n22<|aj a23<|aj s23<|aj z23<|aj i23<|aj n23<|aj p23<|aj ff23<|aj d23<|aj u25<|aj a25<|aj s25<|aj z25<|aj q25<|aj n25<|aj u28<|aj a28<|aj s28<|aj z28<|aj q28<|aj n28<|aj a30<|aj s30<|aj z30<|aj i30<|aj n30<|aj p30<|aj ff30<|aj d30<|aj a59<|aj s59<|aj z59<|aj i59<|aj n59<|aj p59<|aj ff59<|aj d59<|aj u61<|aj a61<|aj s61<|aj z61<|aj q61<|aj i61<|aj n61<|aj a63<|aj s63<|aj z63<|aj i63<|aj n63<|aj p63<|aj ff63<|aj d63<|aj u197<|aj a197<|aj s197<|aj z197<|aj i197<|aj u263<|aj a263<|aj s263<|aj z263<|aj i263<|aj a274<|aj s274<|aj z274<|aj i274<|aj n274<|aj p274<|aj ff274<|aj d274<|aj u275<|aj a275<|aj s275<|aj z275<|aj n275<|aj a277<|aj s277<|aj z277<|aj i277<|aj n277<|aj u279<|aj a279<|aj s279<|aj z279<|aj i279<|aj a280<|aj s280<|aj z280<|aj n280<|aj u281<|aj a281<|aj s281<|aj z281<|aj q281<|aj i281<|aj n281<|aj u282<|aj a282<|aj s282<|aj z282<|aj i282<|aj u283<|aj a283<|aj s283<|aj z283<|aj i283<|aj a285<|aj s285<|aj z285<|aj i285<|aj n285<|aj p285<|aj ff285<|d285
def ints(l:List Int):List Value:=l.flatMap (encI .i64)
theorem dI(l:List Int):(ints l).length=l.length:=by unfold ints;rw [bj (k:=1) (fun _=>rfl)];omega
theorem ny(l m:List Int):ints (l++m)=ints l++ints m:=by unfold ints;rw [yg]
theorem raw_ok {h0:Hp} (ok:h0.t.Sized h0.n) {bd:Nat} {vB:Value} {xs:List Int} (hr:Row h0 bd [vB,.int .i64 ((0:Nat):Int)] 1) (hd:DrAt h0 bd vB xs 0):
 Ret xW 20 [ptrTo bd] h0 fun v h'=>Mo (· =bd) h0 h'/\ ∃γ vx vy va,v=gH γ vx vy va/\Good γ/\cN h' vx vy va γ/\ ∀c,(av vx c\/av vy c\/av va c)->h0.n<=c:=by
 have S:=St.init1 ok (o:=.row [vB,.int .i64 ((0:Nat):Int)] 1) hr
 have lt0:=hr.lt ok
 refine ac (n:=117) (rs:=[.cell 2 30]) rfl Tryz.e20 rfl rfl rfl (lbt rfl) ?_
 simp only [BS,Tryz.FFt820]
 refine ae aw S ?_;clear S;intro h b2 S n_b2
 simp only [BS,LB,Nat.reduceLT,Nat.reduceEqDiff]
 refine step_ret (fC (n:=12) (a:=0) S.ok (S.row m1) (hd.mo S.fr (by omega)) (by omega) (by omega)) ?_
 rintro v h ⟨f,r0,a0,rfl,hr0,ha0,R⟩
 replace S:=S.call1 (i:=1) rfl f (o':=.row _ _) R
 simp only [LC]at S
 have w1:au .i64 (1+(r0:Int))=((1+r0:Nat):Int):=by rw [wrap64]<;>omega
 simp only [BS,LB,Nat.reduceLT,Nat.reduceEqDiff,Nat.reduceAdd,Tryz.FFt820,w1]
 refine ae aw S ?_;clear S;intro h b3 S n_b3
 simp only [BS,LB,Nat.reduceLT,Nat.reduceEqDiff]
 refine az (S.store (i:=0) rfl ?_ ?_ rfl rfl ?_ ono) ?_
 . exact(by exact Tryz.s7)
 . exact(by intro x e;cases e)
 . exact lbt rfl
 clear S;rintro h ⟨S,mo⟩;clear mo;simp only [LC,ag,lay,xY,xZ,Nat.reduceAdd]at S
 simp only [BS]
 replace S:=((S.nilG (k:=3)).nilG (k:=1)).nilG (k:=1)
 generalize hN:1+r0=N at S
 refine aZ (fun(i:Nat) ρ h=>i<=N/\ ∃(a:Nat) (vX vY:Value) (X Y:List Int),a<=1+2*i/\X.length=i/\Y.length=i/\(∀x∈X,-2147483648<=x/\x<=2147483647)/\(∀x∈Y,-2147483648<=x/\x<=2147483647)/\
  St (· =bd) h0 h [(b3,.row [.int .i64 N,vX,vY,.slice none 0 0] 1),(b2,.row [.int .i64 0,.slice none 0 0,.slice none 0 0,.slice none 0 0] 1),(bd,.row [vB,.int .i64 a] 1)] [(vX,1,ints X),(vY,1,ints Y),(.slice none 0 0,3,[])]/\
  ρ 0=ptrTo bd/\ρ 2=ptrTo b2/\ρ 3=ptrTo b3/\ρ 4=.int .i64 i) (fun i=>N-i) ?_ 0 _ _ ?_
 . clear S
   intro i ih ρ h ⟨hi,a,vX,vY,X,Y,ha,lX,lY,cX,cY,S,r0,r2,r3,r4⟩
   by_cases hlt:i<N
   . simp only [BS,LB,Nat.reduceLT,Nat.reduceEqDiff,Tryz.FFt820,r3,r4,aI,hlt,S.ld (b:=b3) (o:=0) m0 rfl]
     refine aC (aH rfl) (q:=32) (ps:=[(1,3)]) (by kernel_rfl) ?_
     simp only [BS,LB,cls,Nat.reduceLT,Nat.reduceEqDiff,Nat.reduceAdd,Nat.reducePow,Nat.reduceDiv,Nat.reduceMod,Nat.reduceLeDiff,Tryz.FFt820,r0,r3,S.ld (b:=b3) (o:=1) m0 rfl]
     refine dg (fC (n:=9) (a:=a) S.ok (S.row m2) (hd.mo S.fr (by omega)) (by omega) (by omega)) ?_
     rintro v h ⟨f,r1,a1,rfl,hr1,ha1,R⟩
     have hl:=S.leaves (c:=b3) m0 f (by omega)
     replace S:=S.call1 (i:=2) rfl f (o':=.row _ _) R
     simp only [LC]at S
     have w9:au .i64 ((r1:Int)-3)=(r1:Int)-3:=by rw [wrap64]<;>omega
     simp only [BS,LB,cls,Nat.reduceLT,Nat.reduceEqDiff,Nat.reduceAdd,Nat.reducePow,Nat.reduceDiv,Nat.reduceMod,Nat.reduceLeDiff,w9]
     refine dt (bL (by exact Tryz.u25) (by exact Tryz.e2E) (by decide) (by rfl)) S ?_;clear S;intro h bs S n_bs e_bs;simp only [LC,aU,bI,ag,Nat.reduceMul,Nat.reduceAdd,yd,yb,yh,yi]at S
     simp only [BS,LB,cls,Nat.reduceLT,Nat.reduceEqDiff,Nat.reduceAdd,Nat.reducePow,Nat.reduceDiv,Nat.reduceMod,Nat.reduceLeDiff]
     refine dn_v (S.grow (j:=0) (m:=1) (new:=ints [(r1:Int)-3]) rfl Tryz.u25 Tryz.e2E (by decide) Tryz.n25 (by simp only [aO];rw [S.lds (b:=bs) (o:=0) (n:=1*1) m0 (lbt rfl)];rfl) rfl (by decide) rfl (by rw [dI,dI];simp;omega)) ?_
     clear S
     rintro h vX' S
     simp only [LC]at S
     replace S:=S.drop1
     rw [<-ny]at S
     have fX:Fl vX':=(S.gown _ m0).1.fl
     simp only [BS,LB,cls,Nat.reduceLT,Nat.reduceEqDiff,Nat.reduceAdd,Nat.reducePow,Nat.reduceDiv,Nat.reduceMod,Nat.reduceLeDiff,Tryz.FFt820,r3]
     refine c5 (aB S (i:=0) rfl ?_ ?_ ?_ ono) ?_
     . exact(by simp only [Tryz.FFt820])
     . exact(by assumption)
     . exact ya (lbt rfl)
     clear S;rintro h ⟨S,mo⟩;clear mo;simp only [LC,ag,lay,xY,xZ,Nat.reduceAdd]at S
     simp only [BS,Nat.reduceAdd]
     refine⟨by simp only [aX,bu,aS,bz,aT,ne_eq,not_false_eq_true,bF,bJ,bA,aY,bK,cD,aK,Nat.reduceLT,Nat.reduceEqDiff,reduceIte,ym,r3,ah,aN hl],?_⟩
     refine aC (aH rfl) (q:=16) (ps:=[(1,3)]) (by kernel_rfl) ?_
     simp only [BS,LB,cls,Nat.reduceLT,Nat.reduceEqDiff,Nat.reduceAdd,Nat.reducePow,Nat.reduceDiv,Nat.reduceMod,Nat.reduceLeDiff,Tryz.FFt820,r0,r3,S.ld (b:=b3) (o:=2) m0 rfl]
     clear f hl R
     refine dg (fC (n:=7) (a:=a1) S.ok (S.row m2) (hd.mo S.fr (by omega)) (by omega) (by omega)) ?_
     rintro v h ⟨f,r5,a2,rfl,hr5,ha2,R⟩
     have hl:=S.leaves (c:=b3) m0 f (by omega)
     replace S:=S.call1 (i:=2) rfl f (o':=.row _ _) R
     simp only [LC]at S
     simp only [BS,LB,cls,Nat.reduceLT,Nat.reduceEqDiff,Nat.reduceAdd,Nat.reducePow,Nat.reduceDiv,Nat.reduceMod,Nat.reduceLeDiff]
     refine dt (bL (by exact Tryz.u25) (by exact Tryz.e2E) (by decide) (by rfl)) S ?_;clear S;intro h bs S n_bs e_bs;simp only [LC,aU,bI,ag,Nat.reduceMul,Nat.reduceAdd,yd,yb,yh,yi]at S
     simp only [BS,LB,cls,Nat.reduceLT,Nat.reduceEqDiff,Nat.reduceAdd,Nat.reducePow,Nat.reduceDiv,Nat.reduceMod,Nat.reduceLeDiff]
     refine dn_v (S.grow (j:=1) (m:=1) (new:=ints [(r5:Int)]) rfl Tryz.u25 Tryz.e2E (by decide) Tryz.n25 (by simp only [aO];rw [S.lds (b:=bs) (o:=0) (n:=1*1) m0 (lbt rfl)];rfl) rfl (by decide) rfl (by rw [dI,dI];simp;omega)) ?_
     clear S
     rintro h vY' S
     simp only [LC]at S
     replace S:=S.drop1
     rw [<-ny]at S
     have fY:Fl vY':=(S.gown _ m1).1.fl
     simp only [BS,LB,cls,Nat.reduceLT,Nat.reduceEqDiff,Nat.reduceAdd,Nat.reducePow,Nat.reduceDiv,Nat.reduceMod,Nat.reduceLeDiff,Tryz.FFt820,r3]
     refine c5 (aB S (i:=0) rfl ?_ ?_ ?_ ono) ?_
     . exact(by simp only [Tryz.FFt820])
     . exact(by assumption)
     . exact ya (lbt rfl)
     clear S;rintro h ⟨S,mo⟩;clear mo;simp only [LC,ag,lay,xY,xZ,Nat.reduceAdd]at S
     simp only [BS,LB,Nat.reduceLT,Nat.reduceEqDiff,Nat.reduceAdd,r4]
     refine⟨by simp only [aX,bu,aS,bz,aT,ne_eq,not_false_eq_true,bF,bJ,bA,aY,bK,cD,aK,Nat.reduceLT,Nat.reduceEqDiff,reduceIte,ym,r3,ah,aN hl],?_⟩
     have w:au .i64 ((i:Int)+1)=((i+1:Nat):Int):=by rw [wrap64]<;>omega
     simp only [w]
     exact ih (i+1) _ _ (by omega) ⟨by omega,a2,vX',vY',_,_,by omega,by simp [lX],by simp [lY],
      fun x hx=>(List.mem_append.1 hx).elim (cX x) (fun h=>by simp at h;omega),fun x hx=>(List.mem_append.1 hx).elim (cY x) (fun h=>by simp at h;omega),S,by simp [aa,r0,ah],by simp [aa,r2,ah],by simp [aa,r3,ah],by simp [aa]⟩
   . have hiN : i=N:=by omega
     subst hiN
     simp only [BS,LB,Nat.reduceLT,Nat.reduceEqDiff,Tryz.FFt820,r0,r3,r4,aI,hlt,S.ld (b:=b3) (o:=0) m0 rfl]
     refine step_ret (fC (n:=9) (a:=a) S.ok (S.row m2) (hd.mo S.fr (by omega)) (by omega) (by omega)) ?_
     rintro v h ⟨f,r5,a1,rfl,hr5,ha1,R⟩
     replace S:=S.call1 (i:=2) rfl f (o':=.row _ _) R
     simp only [LC]at S
     simp only [BS,LB,Nat.reduceLT,Nat.reduceEqDiff]
     refine xP (fun ρ h=> ∃(X Y:List Int),X.length=i/\Y.length=i/\(∀x∈X,-2147483648<=x/\x<=2147483647)/\(∀x∈Y,-2147483648<=x/\x<=2147483647)/\
      St (· =bd) h0 h [(b3,.row [.int .i64 i,vX,vY,.slice none 0 0] 1),(b2,.row [.int .i64 0,.slice none 0 0,.slice none 0 0,.slice none 0 0] 1),(bd,.row [vB,.int .i64 a1] 1)] [(vX,1,ints X),(vY,1,ints Y),(.slice none 0 0,3,[])]/\
      ρ 0=ptrTo bd/\ρ 2=ptrTo b2/\ρ 3=ptrTo b3) ?_ ?_ ?_
     . intro _
       obtain⟨bX,ix,stX⟩:=S.gset (E:=xW) (t:=2) (j:=0) (i:=0) (kd:=.i64) rfl (by rw [dI];omega) Tryz.s2
       have ix':idxS (some 1) vX (.int .i64 0)=_:=ix
       simp only [BS,LB,Nat.reduceLT,Nat.reduceEqDiff,Tryz.FFt820,r3,ix',S.ld (b:=b3) (o:=1) m0 rfl]
       refine az (stX _ bw) ?_
       clear S stX;intro h S
       simp only [LC]at S
       obtain⟨bY,iy,stY⟩:=S.gset (E:=xW) (t:=2) (j:=1) (i:=i-1) (kd:=.i64) rfl (by rw [dI];omega) Tryz.s2
       have w1:au .i64 ((i:Int)-1)=((i-1:Nat):Int):=by rw [wrap64]<;>omega
       simp only [BS,LB,Nat.reduceLT,Nat.reduceEqDiff,Tryz.FFt820,r3,w1,iy,S.ld (b:=b3) (o:=0) m0 rfl,S.ld (b:=b3) (o:=2) m0 rfl]
       refine az (stY _ bw) ?_
       clear S stY;intro h S
       simp only [LC]at S
       simp only [BS]
       have eset: ∀(l:List Int) (j:Nat) (z:Int),(ints l).set j (.int .i64 z)=ints (l.set j z):=by
        intro l
        induction l with
        |nil=>intro j z;rfl
        | cons x l ih=>
          intro j z
          cases j with
          |zero=>rfl
          |succ j=>show _::_=_::_;exact congrArg _ (ih j z)
       rw [eset,eset]at S
       refine kZ ⟨_,_,by simp [lX],by simp [lY],fun x hx=>?_,fun x hx=>?_,S,by simp [aa,r0,ah],by simp [aa,r2,ah],by simp [aa,r3,ah]⟩
       . rcases jK hx with rfl|⟨j,_,hx⟩
         . omega
         . exact cX x (yu hx)
       . rcases jK hx with rfl|⟨j,_,hx⟩
         . omega
         . exact cY x (yu hx)
     . intro _
       simp only [BS]
       exact kZ ⟨X,Y,lX,lY,cX,cY,S,by simp [aa,r0,ah],by simp [aa,r2,ah],by simp [aa,r3,ah]⟩
     . clear S r0 r2 r3 r4 lX lY cX cY X Y f R
       rintro ρ h ⟨X,Y,lX,lY,cX,cY,S,r0,r2,r3⟩
       have w3:au .i64 (3*(i:Int))=((3*i:Nat):Int):=by rw [wrap64]<;>omega
       have w4:au .i64 (((3*i:Nat):Int)+1)=((3*i+1:Nat):Int):=by rw [wrap64]<;>omega
       simp only [BS,LB,Nat.reduceLT,Nat.reduceEqDiff,Tryz.FFt820,r0,r3,w3,w4,S.ld (b:=b3) (o:=0) m0 rfl]
       refine step_ret (fC (n:=3*i+1) (a:=a1) S.ok (S.row m2) (hd.mo S.fr (by omega)) (by omega) (by omega)) ?_
       rintro v h ⟨f,many,a2,rfl,hmany,ha2,R⟩
       replace S:=S.call1 (i:=2) rfl f (o':=.row _ _) R
       simp only [LC]at S
       simp only [BS,LB,Nat.reduceLT,Nat.reduceEqDiff,r0]
       refine step_ret (fC (n:=3) (a:=a2) S.ok (S.row m2) (hd.mo S.fr (by omega)) (by omega) (by omega)) ?_
       rintro v h ⟨f,rr,a3,rfl,hrr,ha3,R⟩
       replace S:=S.call1 (i:=2) rfl f (o':=.row _ _) R
       simp only [LC]at S
       simp only [BS,LB,Nat.reduceLT,Nat.reduceEqDiff]
       generalize decide ((0:Int)<(rr:Int))=ring
       refine u7 (fun ρ h=> ∃(a:Nat) (vA:Value) (A:List Arc),a<=a3+2*i/\A.length<=i/\(∀x∈A,x.s<i/\x.t<i/\x.w<=2147483647)/\
        St (· =bd) h0 h [(b3,.row [.int .i64 i,vX,vY,vA] 1),(b2,.row [.int .i64 0,.slice none 0 0,.slice none 0 0,.slice none 0 0] 1),(bd,.row [vB,.int .i64 a] 1)] [(vX,1,ints X),(vY,1,ints Y),(vA,3,A.flatMap cI)]/\
        ρ 0=ptrTo bd/\ρ 2=ptrTo b2/\ρ 3=ptrTo b3/\ρ 5=.int .i64 many)
        (fun(j:Nat) ρ h=>j<=i/\ ∃(a:Nat) (vA:Value) (A:List Arc),a<=a3+2*j/\A.length<=j/\(∀x∈A,x.s<i/\x.t<i/\x.w<=2147483647)/\
        St (· =bd) h0 h [(b3,.row [.int .i64 i,vX,vY,vA] 1),(b2,.row [.int .i64 0,.slice none 0 0,.slice none 0 0,.slice none 0 0] 1),(bd,.row [vB,.int .i64 a] 1)] [(vX,1,ints X),(vY,1,ints Y),(vA,3,A.flatMap cI)]/\
        ρ 0=ptrTo bd/\ρ 2=ptrTo b2/\ρ 3=ptrTo b3/\ρ 5=.int .i64 many/\ρ 6=.bool ring/\ρ 7=.int .i64 j) (fun j=>i-j) ?_ ?_ 0 ⟨by omega,a3,_,[],by omega,by simp,by simp,S,by simp [aa,r0,ah],by simp [aa,r2,ah],by simp [aa,r3,ah],by simp [aa],by simp [aa],by simp [aa]⟩
       . clear S r0 r2 r3 f R ih
         intro j ih ρ h ⟨hj,a,vA,A,ha,lA,cA,S,r0,r2,r3,r5,r6,r7⟩
         have flen:(A.flatMap cI).length=A.length*3:=bj eP A
         by_cases hlt:j<i/\ring=true
         . obtain⟨hlt,hring⟩:=hlt
           subst hring
           have w1:au .i64 ((j:Int)+1)=((j+1:Nat):Int):=by rw [wrap64]<;>omega
           have ci:(i:Int)≠0:=by omega
           have tm:((j+1:Nat):Int).tmod (i:Int)=(((j+1)%i:Nat):Int):=by rw [yn (by omega)];exact(Int.natCast_emod _ _).symm
           simp only [BS,LB,Nat.reduceLT,Nat.reduceEqDiff,Tryz.FFt820,r3,r6,r7,aI,hlt,S.ld (b:=b3) (o:=0) m0 rfl]
           refine aC (aH rfl) (q:=2048) (ps:=[(6,9),(1,9)]) (by kernel_rfl) ?_
           simp only [BS,LB,cls,Nat.reduceLT,Nat.reduceEqDiff,Nat.reduceAdd,Nat.reducePow,Nat.reduceDiv,Nat.reduceMod,Nat.reduceLeDiff,Tryz.FFt820,r0,r3,r7,w1,px ci,tm,S.ld (b:=b3) (o:=0) m0 rfl,S.ld (b:=b3) (o:=3) m0 rfl]
           refine dg (sU (a:=a) S.ok (S.row m2) (hd.mo S.fr (by omega)) (by omega)) ?_
           rintro v h ⟨f,wt,a4,rfl,hwt,ha4,R⟩
           have hl:=S.leaves (c:=b3) m0 f (by omega)
           replace S:=S.call1 (i:=2) rfl f (o':=.row _ _) R
           simp only [LC]at S
           simp only [BS,LB,cls,Nat.reduceLT,Nat.reduceEqDiff,Nat.reduceAdd,Nat.reducePow,Nat.reduceDiv,Nat.reduceMod,Nat.reduceLeDiff,Tryz.FFt820]
           refine dt (bL (by exact Tryz.u28) (by exact Tryz.e59E) (by decide) (by rfl)) S ?_;clear S;intro h bs S n_bs e_bs;simp only [LC,aU,bI,ag,Nat.reduceMul,Nat.reduceAdd,yd,yb,yh,yi]at S
           simp only [BS,LB,cls,Nat.reduceLT,Nat.reduceEqDiff,Nat.reduceAdd,Nat.reducePow,Nat.reduceDiv,Nat.reduceMod,Nat.reduceLeDiff]
           refine dn_v (S.grow (j:=2) (m:=1) (new:=cI ⟨j,(j+1)%i,wt⟩) rfl Tryz.u28 Tryz.e59E (by decide) Tryz.n28 (by simp only [aO];rw [S.lds (b:=bs) (o:=0) (n:=1*3) m0 (lbt rfl)];rfl) rfl (by decide) rfl (by rw [flen,eP];omega)) ?_
           clear S
           rintro h vA' S
           simp only [LC]at S
           replace S:=S.drop1
           have fA:Fl vA':=(S.gown _ m2).1.fl
           simp only [BS,LB,cls,Nat.reduceLT,Nat.reduceEqDiff,Nat.reduceAdd,Nat.reducePow,Nat.reduceDiv,Nat.reduceMod,Nat.reduceLeDiff,Tryz.FFt820,r3]
           refine c5 (aB S (i:=0) rfl ?_ ?_ ?_ ono) ?_
           . exact(by simp only [Tryz.FFt820])
           . exact(by assumption)
           . exact ya (lbt rfl)
           clear S;rintro h ⟨S,mo⟩;clear mo;simp only [LC,ag,lay,xY,xZ,Nat.reduceAdd]at S
           simp only [BS,LB,Nat.reduceLT,Nat.reduceEqDiff,Nat.reduceAdd,r7]
           refine⟨by simp only [aX,bu,aS,bz,aT,ne_eq,not_false_eq_true,bF,bJ,bA,aY,bK,cD,aK,Nat.reduceLT,Nat.reduceEqDiff,reduceIte,ym,r3,ah,aN hl],?_⟩
           simp only [w1]
           have hmod:(j+1)%i<i:=Nat.mod_lt _ (by omega)
           exact ih (j+1) _ _ (by omega) ⟨by omega,a4,vA',A++[⟨j,(j+1)%i,wt⟩],by omega,by simp;omega,
            fun x hx=>(List.mem_append.1 hx).elim (cA x) (fun h=>by simp at h;subst h;exact⟨hlt,hmod,hwt⟩),by rw [yg];simpa using S,by simp [aa,r0,ah],by simp [aa,r2,ah],by simp [aa,r3,ah],by simp [aa,r5],by simp [aa,r6],by simp [aa]⟩
         . by_cases hji:j<i
           . have hring:ring=false:=by cases ring with
              |false=>rfl
              |true=>exact absurd ⟨hji,rfl⟩ hlt
             subst hring
             simp only [BS,LB,Nat.reduceLT,Nat.reduceEqDiff,Tryz.FFt820,r3,r6,r7,aI,hji,S.ld (b:=b3) (o:=0) m0 rfl]
             exact kZ ⟨a,vA,A,by omega,by omega,cA,S,by simp [aa,r0,ah],by simp [aa,r2,ah],by simp [aa,r3,ah],by simp [aa,r5]⟩
           . simp only [BS,LB,Nat.reduceLT,Nat.reduceEqDiff,Tryz.FFt820,r3,r7,aI,hji,S.ld (b:=b3) (o:=0) m0 rfl]
             exact kZ ⟨a,vA,A,by omega,by omega,cA,S,by simp [aa,r0,ah],by simp [aa,r2,ah],by simp [aa,r3,ah],by simp [aa,r5]⟩
       . clear S r0 r2 r3 f R ih
         rintro ρ h ⟨a,vA,A,ha,lA,cA,S,r0,r2,r3,r5⟩
         simp only [BS]
         refine u7 (fun ρ h=> ∃(a:Nat) (vA:Value) (A:List Arc),A.length<=100/\(∀x∈A,x.s<i/\x.t<i/\x.w<=2147483647)/\
          St (· =bd) h0 h [(b3,.row [.int .i64 i,vX,vY,vA] 1),(b2,.row [.int .i64 0,.slice none 0 0,.slice none 0 0,.slice none 0 0] 1),(bd,.row [vB,.int .i64 a] 1)] [(vX,1,ints X),(vY,1,ints Y),(vA,3,A.flatMap cI)]/\
          ρ 0=ptrTo bd/\ρ 2=ptrTo b2/\ρ 3=ptrTo b3)
          (fun(k:Nat) ρ h=>k<=many/\ ∃(a:Nat) (vA:Value) (A:List Arc),a<=a3+2*i+6*k/\A.length<=i+2*k/\(∀x∈A,x.s<i/\x.t<i/\x.w<=2147483647)/\
          St (· =bd) h0 h [(b3,.row [.int .i64 i,vX,vY,vA] 1),(b2,.row [.int .i64 0,.slice none 0 0,.slice none 0 0,.slice none 0 0] 1),(bd,.row [vB,.int .i64 a] 1)] [(vX,1,ints X),(vY,1,ints Y),(vA,3,A.flatMap cI)]/\
          ρ 0=ptrTo bd/\ρ 2=ptrTo b2/\ρ 3=ptrTo b3/\ρ 5=.int .i64 many/\ρ 8=.int .i64 k) (fun k=>many-k) ?_ ?_ 0 ⟨by omega,a,vA,A,by omega,by omega,cA,S,by simp [aa,r0,ah],by simp [aa,r2,ah],by simp [aa,r3,ah],by simp [aa,r5],by simp [aa]⟩
         . clear S r0 r2 r3 r5 ha lA cA a vA A
           intro k ih ρ h ⟨hk,a,vA,A,ha,lA,cA,S,r0,r2,r3,r5,r8⟩
           have flen:(A.flatMap cI).length=A.length*3:=bj eP A
           by_cases hlt:k<many
           . simp only [BS,LB,Nat.reduceLT,Nat.reduceEqDiff,r5,r8,aI,hlt]
             refine aC (mL (ord:=[11,0,1,2,3,4,5,6,7,8,9,10,12]) rfl rfl (by simp only [fh,reix,fj,List.getElem?_cons_zero,List.getElem?_cons_succ,List.map_toArray,List.map_cons,List.map_nil,Nat.reduceBEq,cond_true,cond_false];exact rfl)) (q:=1) (ps:=[(0,10),(0,8),(4,7),(0,4)]) (by kernel_rfl) ?_
             simp only [BS,LB,cls,Nat.reducePow,Nat.reduceDiv,Nat.reduceMod,Nat.reduceLeDiff,Tryz.FFt820]
             refine dt aw S ?_;clear S;intro h b9 S n_b9 e_b9
             simp only [BS,LB,cls,Nat.reduceLT,Nat.reduceEqDiff,Nat.reduceAdd,Nat.reducePow,Nat.reduceDiv,Nat.reduceMod,Nat.reduceLeDiff,Tryz.FFt820,r0,r3,S.ld (b:=b3) (o:=0) m1 rfl]
             refine dg (fC (n:=i) (a:=a) S.ok (S.row m3) (hd.mo S.fr (by omega)) (by omega) (by omega)) ?_
             rintro v h ⟨f,s1,a4,rfl,hs1,ha4,R⟩
             have hl0:=S.leaves (c:=b9) m0 f (by omega)
             have hl4:=S.leaves (c:=b3) m1 f (by omega)
             replace S:=S.call1 (i:=3) rfl f (o':=.row _ _) R
             simp only [LC]at S
             simp only [BS,LB,cls,Nat.reduceLT,Nat.reduceEqDiff,Nat.reduceAdd,Nat.reducePow,Nat.reduceDiv,Nat.reduceMod,Nat.reduceLeDiff,Tryz.FFt820,r0,r3,S.ld (b:=b3) (o:=0) m1 rfl]
             refine dg (fC (n:=i) (a:=a4) S.ok (S.row m3) (hd.mo S.fr (by omega)) (by omega) (by omega)) ?_
             rintro v h ⟨f,s2,a5,rfl,hs2,ha5,R⟩
             have hl1:=S.leaves (c:=b9) m0 f (by omega)
             have hl2:=S.leaves (c:=b3) m1 f (by omega)
             replace S:=S.call1 (i:=3) rfl f (o':=.row _ _) R
             simp only [LC]at S
             simp only [BS,LB,cls,Nat.reduceLT,Nat.reduceEqDiff,Nat.reduceAdd,Nat.reducePow,Nat.reduceDiv,Nat.reduceMod,Nat.reduceLeDiff,r0]
             refine dg (sU (a:=a5) S.ok (S.row m3) (hd.mo S.fr (by omega)) (by omega)) ?_
             rintro v h ⟨f,wt,a6,rfl,hwt,ha6,R⟩
             have hl3:=S.leaves (c:=b9) m0 f (by omega)
             replace S:=S.call1 (i:=3) rfl f (o':=.row _ _) R
             simp only [LC]at S
             simp only [BS,LB,cls,Nat.reduceLT,Nat.reduceEqDiff,Nat.reduceAdd,Nat.reducePow,Nat.reduceDiv,Nat.reduceMod,Nat.reduceLeDiff,Tryz.FFt820]
             refine c5 (S.store (i:=0) rfl ?_ ?_ rfl rfl ?_ ono) ?_
             . exact(by exact Tryz.s59)
             . exact(by intro x e;cases e)
             . exact lbt rfl
             clear S;rintro h ⟨S,mo⟩;clear mo;simp only [LC,ag,lay,xY,xZ,Nat.reduceAdd]at S
             simp only [BS,LB,Nat.reduceLT,Nat.reduceEqDiff,Nat.reduceAdd,Tryz.FFt820,r3]
             refine⟨by simp only [aX,bu,aS,bz,aT,ne_eq,not_false_eq_true,bF,bJ,bA,aY,bK,cD,aK,Nat.reduceLT,Nat.reduceEqDiff,reduceIte,ym,r3,ah,<-e_b9,aN hl0,aN hl1,aN hl2,aN hl3,aP hl4],?_⟩
             simp only [BS,LB,Nat.reduceLT,Nat.reduceEqDiff,Tryz.FFt820,S.ld (b:=b3) (o:=3) m1 rfl,S.lds (b:=b9) (o:=0) (n:=3) m0 (lbt rfl)]
             refine ae (bL (by exact Tryz.u28) (by exact Tryz.e59E) (by decide) (by rfl)) S ?_;clear S;intro h bs S n_bs;simp only [LC,aU,bI,ag,Nat.reduceMul,Nat.reduceAdd,yd,yb,yh,yi]at S
             simp only [BS,LB,Nat.reduceLT,Nat.reduceEqDiff]
             refine eK (S.grow (j:=2) (m:=1) (new:=cI ⟨s1,s2,wt⟩) rfl Tryz.u28 Tryz.e59E (by decide) Tryz.n28 (by simp only [aO];rw [S.lds (b:=bs) (o:=0) (n:=1*3) m0 (lbt rfl)];rfl) rfl (by decide) rfl (by rw [flen,eP];omega)) ?_
             clear S
             rintro h vA' S
             simp only [LC]at S
             replace S:=S.drop1
             have fA:Fl vA':=(S.gown _ m2).1.fl
             simp only [BS,LB,Nat.reduceLT,Nat.reduceEqDiff,Tryz.FFt820,r3]
             refine az (aB S (i:=1) rfl ?_ ?_ ?_ ono) ?_
             . exact(by simp only [Tryz.FFt820])
             . exact(by assumption)
             . exact ya (lbt rfl)
             clear S;rintro h ⟨S,mo⟩;clear mo;simp only [LC,ag,lay,xY,xZ,Nat.reduceAdd]at S
             simp only [BS,LB,Nat.reduceLT,Nat.reduceEqDiff,r0]
             refine step_ret (fC (n:=4) (a:=a6) S.ok (S.row m3) (hd.mo S.fr (by omega)) (by omega) (by omega)) ?_
             rintro v h ⟨f,r9,a7,rfl,hr9,ha7,R⟩
             replace S:=S.call1 (i:=3) rfl f (o':=.row _ _) R
             simp only [LC]at S
             have w8:au .i64 ((k:Int)+1)=((k+1:Nat):Int):=by rw [wrap64]<;>omega
             have flen':(A.flatMap cI++cI ⟨s1,s2,wt⟩).length=A.length*3+3:=by rw [List.length_append,flen,eP]
             have cA': ∀x∈A++[(⟨s1,s2,wt⟩:Arc)],x.s<i/\x.t<i/\x.w<=2147483647:=fun x hx=>(List.mem_append.1 hx).elim (cA x) (fun h=>by simp at h;subst h;exact⟨hs1,hs2,hwt⟩)
             by_cases hz:(r9:Int)=0
             . simp only [BS,LB,Nat.reduceLT,Nat.reduceEqDiff,Nat.reduceAdd,Tryz.FFt820,r3,hz,S.ld (b:=b3) (o:=3) m1 rfl,S.ld (b:=b9) (o:=0) m0 rfl,S.ld (b:=b9) (o:=1) m0 rfl,S.ld (b:=b9) (o:=2) m0 rfl]
               refine ae (bL (by exact Tryz.u28) (by exact Tryz.e59E) (by decide) (by rfl)) S ?_;clear S;intro h bs S n_bs;simp only [LC,aU,bI,ag,Nat.reduceMul,Nat.reduceAdd,yd,yb,yh,yi]at S
               simp only [BS,LB,Nat.reduceLT,Nat.reduceEqDiff]
               refine eK (S.grow (j:=2) (m:=1) (new:=cI ⟨s2,s1,wt⟩) rfl Tryz.u28 Tryz.e59E (by decide) Tryz.n28 (by simp only [aO];rw [S.lds (b:=bs) (o:=0) (n:=1*3) m0 (lbt rfl)];rfl) rfl (by decide) rfl (by rw [flen',eP];omega)) ?_
               clear S
               rintro h vA2 S
               simp only [LC]at S
               replace S:=S.drop1
               have fA:Fl vA2:=(S.gown _ m2).1.fl
               simp only [BS,LB,Nat.reduceLT,Nat.reduceEqDiff,Tryz.FFt820,r3]
               refine az (aB S (i:=1) rfl ?_ ?_ ?_ ono) ?_
               . exact(by simp only [Tryz.FFt820])
               . exact(by assumption)
               . exact ya (lbt rfl)
               clear S;rintro h ⟨S,mo⟩;clear mo;simp only [LC,ag,lay,xY,xZ,Nat.reduceAdd]at S
               simp only [BS,LB,Nat.reduceLT,Nat.reduceEqDiff,r8,w8]
               replace S:=S.drop1
               exact ih (k+1) _ _ (by omega) ⟨by omega,a7,vA2,A++[⟨s1,s2,wt⟩]++[⟨s2,s1,wt⟩],by omega,by simp;omega,
                fun x hx=>(List.mem_append.1 hx).elim (cA' x) (fun h=>by simp at h;subst h;exact⟨hs2,hs1,hwt⟩),by rw [yg,yg];simpa using S,by simp [aa,r0,ah],by simp [aa,r2,ah],by simp [aa,r3,ah],by simp [aa,r5],by simp [aa]⟩
             . simp only [BS,LB,Nat.reduceLT,Nat.reduceEqDiff,r8,hz,w8]
               replace S:=S.drop1
               exact ih (k+1) _ _ (by omega) ⟨by omega,a7,vA',A++[⟨s1,s2,wt⟩],by omega,by simp;omega,
                cA',by rw [yg];simpa using S,by simp [aa,r0,ah],by simp [aa,r2,ah],by simp [aa,r3,ah],by simp [aa,r5],by simp [aa]⟩
           . simp only [BS,LB,Nat.reduceLT,Nat.reduceEqDiff,r5,r8,aI,hlt]
             exact kZ ⟨a,vA,A,by omega,cA,S,by simp [aa,r0,ah],by simp [aa,r2,ah],by simp [aa,r3,ah]⟩
         . clear S r0 r2 r3 r5 ha lA cA a vA A
           rintro ρ h ⟨a,vA,A,lA,cA,S,r0,r2,r3⟩
           simp only [BS,LB,Nat.reduceLT,Nat.reduceEqDiff,Tryz.FFt820,r2,r3,S.lds (b:=b3) (o:=0) (n:=4) m0 (lbt rfl)]
           have fX:Fl vX:=(S.gown _ m0).1.fl
           have fY:Fl vY:=(S.gown _ m1).1.fl
           have fA:Fl vA:=(S.gown _ m2).1.fl
           refine az (S.store (i:=1) rfl Tryz.s30 (by intro x e;cases e) rfl (by simp only [ag,xY,xZ,List.all_cons,List.all_nil,fX.2.1,fY.2.1,fA.2.1,ym];rfl) (lbt rfl) ono) ?_
           clear S;rintro h ⟨S,_⟩
           simp only [LC,ag,lay,xY,xZ,Nat.reduceAdd]at S
           simp only [BS,ab]
           refine⟨_,pJ (by decide) (by simp only [aK,r2,ah,Nat.reduceEqDiff,reduceIte];exact cm Tryz.a30 Tryz.s30 (S.lds (b:=b2) (o:=0) (n:=4) m1 (lbt rfl))),?_⟩
           have blk: ∀p∈[(vX,1,ints X),(vY,1,ints Y),(vA,3,A.flatMap cI)],∀c,av p.1 c->h0.n<=c:=by
            intro p hp c hc
            obtain⟨h1,h2⟩:=S.gblk hp hc
            rcases h1 with h1|h1
            . exact h1
            . exact absurd (by simp [h1]) h2
           refine⟨S.fr,⟨i,X,Y,A⟩,vX,vY,vA,rfl,⟨show 1<=i by omega,show i<=12 by omega,lX,lY,cX,cY,lA,cA⟩,⟨(S.gown _ m0).1.sl rfl (fun _=>rfl) (by decide),(S.gown _ m1).1.sl rfl (fun _=>rfl) (by decide),(S.gown _ m2).1.sl rfl (fun _=>rfl) (by decide)⟩,?_⟩
           rintro c (hc|hc|hc)
           . exact blk _ m0 c hc
           . exact blk _ m1 c hc
           . exact blk _ m2 c hc
 . exact⟨by omega,a0,_,_,[],[],by omega,rfl,rfl,by simp,by simp,S,by simp [aa,ce,ah],by simp [aa,ah],by simp [aa,ah],by simp [aa]⟩
open Tryz in
def Tryz.FFt933:=aj a1<|aj s1<|aj z1<|aj n1<|aj u2<|aj a2<|aj s2<|aj z2<|aj i2<|aj u3<|aj a3<|aj s3<|aj z3<|aj i3<|aj u25<|aj a25<|aj s25<|aj z25<|aj q25<|aj n25<|aj u28<|aj a28<|aj s28<|aj z28<|aj q28<|aj n28<|aj a30<|aj s30<|aj z30<|aj i30<|aj n30<|aj p30<|aj ff30<|aj d30<|aj a59<|aj s59<|aj z59<|aj i59<|aj n59<|aj p59<|aj ff59<|d59
theorem ay{h h':Hp}{b:Nat}(g:Gr h h')(hb:b<h.n):leaves h h' b=true:=pM (g.get b hb)
theorem own_ok{h0:Hp}(ok:h0.t.Sized h0.n){γ:Gra}(hγ:Good γ){vx vy va:Value}(ga:cN h0 vx vy va γ):
 Ret xW 33 [gH γ vx vy va] h0 fun v h'=>Gr h0 h'/\ ∃vx vy va,v=gH γ vx vy va/\cN h' vx vy va γ/\(∀c,av vx c\/av vy c\/av va c->h0.n<=c)/\WrK h' 3 cI va γ.arcs/\ ∀c,av va c-> ¬av vx c/\ ¬av vy c:=by
 have S:=Si ok
 have lX:=hγ.lX
 have lY:=hγ.lY
 have n2:=hγ.n2
 have many:=hγ.many
 refine ac (n:=16) (rs:=[.cell 2 30]) rfl Tryz.e33 rfl rfl rfl (lbt rfl) ?_
 simp only [BS,Nat.reduceLT,gH]
 refine ae (bE (by intro x e;cases e)) S ?_;clear S;intro h b S n_b;simp only [ag]at S
 simp only [BS,Tryz.FFt933]
 refine ae aw S ?_;clear S;intro h b2 S n_b2
 simp only [BS]
 refine aC (aH rfl) (q:=0) (ps:=[(5,7),(2,7),(2,4)]) (by kernel_rfl) ?_
 simp only [BS,LB,cls,Nat.reduceLT,Nat.reduceEqDiff,Nat.reduceAdd,Nat.reducePow,Nat.reduceDiv,Nat.reduceMod,Nat.reduceLeDiff,Tryz.FFt933,S.ld (b:=b) (o:=1) m1 rfl]
 refine dg (rM S.ok (ga.X.gr S.gr) (by omega)) ?_
 have k1:=S.fr.n
 rintro v1 h ⟨g,s1,q1⟩
 have e1:=ay g ((S.row (b:=b) m1).lt S.ok)
 have a1: ∀c,av v1 c-> ¬c=b:=fun c hc e=>by have:=q1 c hc;have:=(S.row (b:=b) m1).lt S.ok;omega
 have b1': ∀c,av v1 c-> ¬c=b2:=fun c hc e=>by have:=q1 c hc;have:=(S.row (b:=b2) m0).lt S.ok;omega
 replace S:=S.call g
 simp only [BS,LB,cls,Nat.reduceLT,Nat.reduceEqDiff,Nat.reduceAdd,Nat.reducePow,Nat.reduceDiv,Nat.reduceMod,Nat.reduceLeDiff,Tryz.FFt933,S.ld (b:=b) (o:=2) m1 rfl]
 refine dg (rM S.ok (ga.Y.gr S.gr) (by omega)) ?_
 have k2:=S.fr.n
 rintro v2 h ⟨g,s2,q2⟩
 have e2:=ay g ((S.row (b:=b) m1).lt S.ok)
 have a2: ∀c,av v2 c-> ¬c=b:=fun c hc e=>by have:=q2 c hc;have:=(S.row (b:=b) m1).lt S.ok;omega
 have b2': ∀c,av v2 c-> ¬c=b2:=fun c hc e=>by have:=q2 c hc;have:=(S.row (b:=b2) m0).lt S.ok;omega
 replace S:=S.call g
 replace s1:=s1.gr g
 simp only [BS,LB,cls,Nat.reduceLT,Nat.reduceEqDiff,Nat.reduceAdd,Nat.reducePow,Nat.reduceDiv,Nat.reduceMod,Nat.reduceLeDiff,Tryz.FFt933,S.ld (b:=b) (o:=3) m1 rfl]
 refine dg (vK S.ok (ga.A.gr S.gr) (by omega)) ?_
 have k3:=S.fr.n
 rintro v3 h ⟨g,s3,q3,w3⟩
 have d3: ∀c,av v3 c-> ¬av v1 c/\ ¬av v2 c:=fun c hc=>⟨fun h=>by have:=q3 c hc;have:=s1.lt S.ok h;omega,fun h=>by have:=q3 c hc;have:=s2.lt S.ok h;omega⟩
 have e3:=ay g ((S.row (b:=b) m1).lt S.ok)
 have a3: ∀c,av v3 c-> ¬c=b:=fun c hc e=>by have:=q3 c hc;have:=(S.row (b:=b) m1).lt S.ok;omega
 have b3': ∀c,av v3 c-> ¬c=b2:=fun c hc e=>by have:=q3 c hc;have:=(S.row (b:=b2) m0).lt S.ok;omega
 replace S:=S.call g
 replace s1:=s1.gr g
 replace s2:=s2.gr g
 have z: ∀c,av v1 c\/av v2 c\/av v3 c->h0.n<=c:=fun c hc=>by
  rcases hc with h|h|h
  . exact yq k1 (q1 c h)
  . exact yq k2 (q2 c h)
  . exact yq k3 (q3 c h)
 have f1:=s1.fl
 have f2:=s2.fl
 have f3:=s3.fl
 simp only [BS,LB,cls,Nat.reduceLT,Nat.reduceEqDiff,Nat.reduceAdd,Nat.reducePow,Nat.reduceDiv,Nat.reduceMod,Nat.reduceLeDiff,Tryz.FFt933]
 refine c5 (aB S (i:=1) rfl ?_ ?_ ?_ ono) ?_
 . exact(by simp only [Tryz.FFt933])
 . exact(by assumption)
 . exact ya (lbt rfl)
 clear S;rintro h ⟨S,mo⟩;replace s1:=s1.mo mo a1;replace s2:=s2.mo mo a2;replace s3:=s3.mo mo a3;replace w3:=w3.mo mo a3;clear mo;simp only [LC,ag,lay,xY,xZ,Nat.reduceAdd]at S
 simp only [BS,LB,cls,Nat.reduceLT,Nat.reduceEqDiff,Nat.reduceAdd,Nat.reducePow,Nat.reduceDiv,Nat.reduceMod,Nat.reduceLeDiff,Tryz.FFt933]
 refine c5 (aB S (i:=1) rfl ?_ ?_ ?_ ono) ?_
 . exact(by simp only [Tryz.FFt933])
 . exact(by assumption)
 . exact ya (lbt rfl)
 clear S;rintro h ⟨S,mo⟩;replace s1:=s1.mo mo a1;replace s2:=s2.mo mo a2;replace s3:=s3.mo mo a3;replace w3:=w3.mo mo a3;clear mo;simp only [LC,ag,lay,xY,xZ,Nat.reduceAdd]at S
 simp only [BS,LB,cls,Nat.reduceLT,Nat.reduceEqDiff,Nat.reduceAdd,Nat.reducePow,Nat.reduceDiv,Nat.reduceMod,Nat.reduceLeDiff,Tryz.FFt933]
 refine c5 (aB S (i:=1) rfl ?_ ?_ ?_ ono) ?_
 . exact(by simp only [Tryz.FFt933])
 . exact(by assumption)
 . exact ya (lbt rfl)
 clear S;rintro h ⟨S,mo⟩;replace s1:=s1.mo mo a1;replace s2:=s2.mo mo a2;replace s3:=s3.mo mo a3;replace w3:=w3.mo mo a3;clear mo;simp only [LC,ag,lay,xY,xZ,Nat.reduceAdd]at S
 simp only [BS,LB,Nat.reduceLT,Nat.reduceEqDiff,Nat.reduceAdd,Tryz.FFt933]
 refine⟨by simp only [aX,bu,aS,bz,aT,ne_eq,not_false_eq_true,bF,bJ,bA,aY,bK,cD,aK,Nat.reduceLT,Nat.reduceEqDiff,reduceIte,ym,aV,ah,aN e1,aN e2,aN e3,aP e1,aP e2,aP e3],?_⟩
 simp only [BS,LB,Nat.reduceLT,Nat.reduceEqDiff,S.lds (b:=b) (o:=0) (n:=4) m1 (lbt rfl)]
 refine az (S.store (i:=0) rfl Tryz.s30 (by intro x e;cases e) rfl (by simp only [ag,xY,xZ,List.all_cons,List.all_nil,f1.2.1,f2.2.1,f3.2.1,ym];rfl) (lbt rfl) ono) ?_
 clear S
 rintro h' ⟨S,g2⟩
 simp only [LC,ag,lay,xY,xZ,Nat.reduceAdd]at S
 simp only [BS,ab]
 refine⟨_,pJ (by decide) (by simp only [aK,ah,Nat.reduceEqDiff,reduceIte];exact cm Tryz.a30 Tryz.s30 (S.lds (b:=b2) (o:=0) (n:=4) m0 (lbt rfl))),?_⟩
 exact⟨S.gr,v1,v2,v3,rfl,⟨s1.mo g2 b1',s2.mo g2 b2',s3.mo g2 b3'⟩,z,w3.mo g2 b3',d3⟩
end Go.Ab
end
section
namespace Go.Ab
section
variable(A:List Arc)(f:Arc->Nat)
def outs(j v:Nat):List Nat:=(yf j).filter fun i=>decide (f (A.getD i default)=v)
def start:Nat->Nat
 |0=>0
 |v+1=>start v+(outs A f A.length v).length
theorem gu(j v:Nat):outs A f (j+1) v=outs A f j v++(if f (A.getD j default)=v then [j]else []):=by
 unfold outs
 rw [yz,List.filter_append]
 congr 1
 by_cases h:f (A.getD j default)=v
 . simp only [yy,List.filter_nil,h,decide_true,if_true]
 . simp only [yy,List.filter_nil,h,decide_false,if_false,Bool.false_eq_true]
theorem outs_pre{j k:Nat}(h:j<=k)(v:Nat): ∃l,outs A f k v=outs A f j v++l:=by
 induction k with
 | zero => have:j=0:=by omega
           subst this;exact⟨[],by simp⟩
 | succ k ih=>
   by_cases hk:j=k+1
   . subst hk;exact⟨[],by simp⟩
   . obtain⟨l,hl⟩:=ih (by omega)
     exact⟨l++_,by rw [gu,hl,List.append_assoc]⟩
theorem sa{j k:Nat}(h:j<=k)(v:Nat):(outs A f j v).length<=(outs A f k v).length:=by
 obtain⟨l,hl⟩:=outs_pre A f h v
 rw [hl,List.length_append];omega
theorem start_eq (v:Nat):start A f v=((yf A.length).filter fun i=>decide (f (A.getD i default)<v)).length:=by
 have key: ∀(l:List Nat) (v:Nat),(l.filter fun i=>decide (f (A.getD i default)<v+1)).length=(l.filter fun i=>decide (f (A.getD i default)<v)).length+(l.filter fun i=>decide (f (A.getD i default)=v)).length:=by
  intro l v
  induction l with
  |nil=>rfl
  | cons x l ih=>
    simp only [yy]
    by_cases h1:f (A.getD x default)<v
    . have h2:f (A.getD x default)<v+1:=by omega
      have h3: ¬f (A.getD x default)=v:=by omega
      rw [if_pos (decide_eq_true h2),if_pos (decide_eq_true h1),if_neg (by rw [decide_eq_true_eq];exact h3),yr,yr,ih];omega
    . by_cases h3:f (A.getD x default)=v
      . have h2:f (A.getD x default)<v+1:=by omega
        rw [if_pos (decide_eq_true h2),if_neg (by rw [decide_eq_true_eq];exact h1),if_pos (decide_eq_true h3),yr,yr,ih];omega
      . have h2: ¬f (A.getD x default)<v+1:=by omega
        rw [if_neg (by rw [decide_eq_true_eq];exact h2),if_neg (by rw [decide_eq_true_eq];exact h1),if_neg (by rw [decide_eq_true_eq];exact h3),ih]
 induction v with
 |zero=>rw [start];symm;rw [List.length_eq_zero_iff,List.filter_eq_nil_iff];intro a _;simp only [Nat.not_lt_zero,decide_false,Bool.false_eq_true,not_false_eq_true]
 |succ v ih=>rw [start,ih,key];rfl
theorem mz(v:Nat):start A f v+(outs A f A.length v).length<=A.length:=by
 have:=start_eq A f (v+1)
 rw [start]at this
 rw [this]
 exact yq (List.length_filter_le _ _) (by simp)
theorem ru{u v:Nat}(h:u<v):start A f u+(outs A f A.length u).length<=start A f v:=by
 induction v with
 |zero=>omega
 | succ v ih=>
   rw [start]
   by_cases hu:u=v
   . subst hu;exact yA _
   . have:=ih (by omega);omega
theorem wj{u v r s:Nat}(hr:r<(outs A f A.length u).length)(hs:s<(outs A f A.length v).length)(h:start A f u+r=start A f v+s):u=v/\r=s:=by
 rcases Nat.lt_trichotomy u v with h1|h1|h1
 . have:=ru A f h1;omega
 . subst h1;exact⟨rfl,by omega⟩
 . have:=ru A f h1;omega
end
def bW(x:Nat):List Value:=[.int .i64 x]
theorem fH(x:Nat):(bW x).length=1:=rfl
def ff(h:Hp)(m:Nat)(v:Value)(N:Nat)(R:Nat->List Nat):Prop:=
 ∃bv vs,v=.slice (some ⟨bv,0,none⟩) N N/\m<=bv/\Row h bv vs 1/\vs.length=N/\ ∀i,i<N-> ∃w,vs[i]? =some w/\aA h 1 bW w (R i)/\ ∀c,av w c->m<=c
theorem ff.mo{M:Nat->Prop}{h h':Hp}{v:Value}{m N:Nat}{R:Nat->List Nat}(r:ff h m v N R)(g:Mo M h h')(hm: ∀b,M b->b<m):ff h' m v N R:=by
 obtain⟨bv,vs,h1,h0,h2,h3,h4⟩:=r
 refine⟨bv,vs,h1,by omega,g.has (o:=.row vs 1) h2 (fun h=>by have:=hm _ h;omega),h3,fun i hi=>?_⟩
 obtain⟨w,a,b,c⟩:=h4 i hi
 exact⟨w,a,b.mo g fun x hx hM=>by have:=hm _ hM;have:=c x hx;omega,fun x hx=>by have:=c x hx;omega⟩
theorem ff.gr{h h':Hp}{v:Value}{m N:Nat}{R:Nat->List Nat}(g:Gr h h')(r:ff h m v N R):ff h' m v N R:=
 r.mo (M:=NoM) g.fr (fun _ h=>h.elim)
theorem ff.low{h:Hp}{v:Value}{m m' N:Nat}{R:Nat->List Nat}(r:ff h m v N R)(hm:m'<=m):ff h m' v N R:=by
 obtain⟨bv,vs,h1,h0,h2,h3,h4⟩:=r
 exact⟨bv,vs,h1,by omega,h2,h3,fun i hi=>by
  obtain⟨w,a,b,c⟩:=h4 i hi
  exact⟨w,a,b,fun x hx=>by have:=c x hx;omega⟩⟩
structure bT(h:Hp)(m:Nat)(p:Value)(γ:Gra):Prop where
 ex: ∃b vx vy va vo vi,p=ptrTo b/\Row h b [.int .i64 γ.nodes,vx,vy,va,vo,vi] 1/\cN h vx vy va γ/\ff h m vo γ.nodes (outs γ.arcs Arc.s γ.arcs.length)/\ff h m vi γ.nodes (outs γ.arcs Arc.t γ.arcs.length)/\m<=b/\ ∀c,av vx c\/av vy c\/av va c->m<=c
theorem cN.mo{M:Nat->Prop}{h h':Hp}{vx vy va:Value}{γ:Gra}(a:cN h vx vy va γ)(g:Mo M h h')(hm: ∀c,av vx c\/av vy c\/av va c-> ¬M c):cN h' vx vy va γ:=
 ⟨a.X.mo g fun c h=>hm c (.inl h),a.Y.mo g fun c h=>hm c (.inr (.inl h)),a.A.mo g fun c h=>hm c (.inr (.inr h))⟩
theorem bT.mo{M:Nat->Prop}{h h':Hp}{m:Nat}{p:Value}{γ:Gra}(n:bT h m p γ)(g:Mo M h h')(hm: ∀b,M b->b<m):bT h' m p γ:=by
 obtain⟨b,vx,vy,va,vo,vi,h1,h2,h3,h4,h5,h6,h7⟩:=n.ex
 exact⟨b,vx,vy,va,vo,vi,h1,g.has (o:=.row _ 1) h2 (fun h=>by have:=hm _ h;omega),h3.mo g (fun c hc hM=>by have:=hm _ hM;have:=h7 c hc;omega),h4.mo g hm,h5.mo g hm,h6,h7⟩
theorem bT.gr{h h':Hp}{m:Nat}{p:Value}{γ:Gra}(n:bT h m p γ)(g:Gr h h'):bT h' m p γ:=n.mo (M:=NoM) g.fr (fun _ h=>h.elim)
theorem ij{α:Type}{N k:Nat}{F F':Nat->α}(hk: ∀i,i<N->i≠k->F' i=F i):((yf N).map F).set k (F' k)=(yf N).map F':=by
 refine List.ext_getElem? fun i=>?_
 rw [List.getElem?_set]
 by_cases hi:i<N
 . by_cases e:k=i
   . subst e;simp [hi]
   . rw [if_neg e];simp [hi,hk i hi (Ne.symm e)]
 . by_cases e:k=i
   . subst e;simp [hi]
   . rw [if_neg e];simp [hi]
theorem gL{α:Type}{N k:Nat}{F:Nat->α}(hk:k<N):((yf N).map F)[k]? =some (F k):=by simp [hk]
end Go.Ab

end

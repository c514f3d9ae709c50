/- Nets, cells, flags: what the functions do (part 1). -/
import Derived.Test.YtcjpjgegchdfmaaGreatDoorEnv
set_option maxHeartbeats 4000000
set_option linter.defProp false
set_option linter.unusedVariables false
set_option linter.unusedSimpArgs false
section
namespace Go.Ab
theorem aj {a b : Prop} (x : a) (y : b) : a ∧ b := ⟨x, y⟩
theorem lbt {a b : Nat} (h : Nat.ble a b = true) : a ≤ b := Nat.le_of_ble_eq_true h
theorem ono : (1 : Nat) ≠ 0 := Nat.one_ne_zero
set_option linter.defProp false in
def LB := And.intro @if_true.{1} <| And.intro @if_false.{1} <| And.intro @eq_self.{1} <| And.intro @List.map_cons.{0,0} <| And.intro @List.map_nil.{0,0} <| And.intro @List.append_nil.{0} <| And.intro @List.nil_append.{0} <| And.intro @List.cons_append.{0} <| And.intro @List.getElem?_cons_zero.{0} <| And.intro @List.getElem?_cons_succ.{0} <| And.intro @List.set_cons_zero.{0} <| And.intro @List.set_cons_succ.{0} <| And.intro @List.length_cons.{0} <| And.intro @List.length_nil.{0} <| And.intro @Nat.add_zero <| And.intro @Nat.zero_add <| And.intro @Nat.mul_one <| And.intro @Nat.zero_mul <| And.intro @cond_true.{1} <| And.intro @cond_false.{1} <| And.intro @decide_true <| And.intro @decide_false <| And.intro @Bool.and_true <| And.intro @Bool.and_false <| And.intro @Bool.not_false <| And.intro @Bool.not_true <| And.intro @true_and <| And.intro @and_true <| And.intro @Option.isSome_some.{0} <| @List.map_toArray.{0,0}
open Go.Proofs
theorem Tryz.a1 : Tryz.abEnv.agg 1 = some false := by kernel_rfl
theorem Tryz.s1 : Tryz.abEnv.sz 1 = some 1 := by kernel_rfl
theorem Tryz.z1 : Tryz.abEnv.zero 1 = some [.nilFunc] := by kernel_rfl
theorem Tryz.n1 : intTy Tryz.abEnv 1 = some false := by kernel_rfl
theorem Tryz.u2 : Tryz.abEnv.und 2 = some (.int .i64) := by kernel_rfl
theorem Tryz.a2 : Tryz.abEnv.agg 2 = some false := by kernel_rfl
theorem Tryz.s2 : Tryz.abEnv.sz 2 = some 1 := by kernel_rfl
theorem Tryz.z2 : Tryz.abEnv.zero 2 = some [.int .i64 0] := by kernel_rfl
theorem Tryz.i2 : isStr Tryz.abEnv 2 = true := by kernel_rfl
theorem Tryz.e2E : ElemIs Tryz.abEnv 2 8 1 [.int .i64 0] := ⟨⟨_, rfl, by kernel_rfl, by kernel_rfl⟩, Tryz.z2, rfl⟩
theorem Tryz.u3 : Tryz.abEnv.und 3 = some (.int .i64) := by kernel_rfl
theorem Tryz.a3 : Tryz.abEnv.agg 3 = some false := by kernel_rfl
theorem Tryz.s3 : Tryz.abEnv.sz 3 = some 1 := by kernel_rfl
theorem Tryz.z3 : Tryz.abEnv.zero 3 = some [.int .i64 0] := by kernel_rfl
theorem Tryz.i3 : isStr Tryz.abEnv 3 = true := by kernel_rfl
theorem Tryz.e3E : ElemIs Tryz.abEnv 3 8 1 [.int .i64 0] := ⟨⟨_, rfl, by kernel_rfl, by kernel_rfl⟩, Tryz.z3, rfl⟩
theorem Tryz.u4 : Tryz.abEnv.und 4 = some .bool := by kernel_rfl
theorem Tryz.a4 : Tryz.abEnv.agg 4 = some false := by kernel_rfl
theorem Tryz.s4 : Tryz.abEnv.sz 4 = some 1 := by kernel_rfl
theorem Tryz.z4 : Tryz.abEnv.zero 4 = some [.bool false] := by kernel_rfl
theorem Tryz.n4 : intTy Tryz.abEnv 4 = some false := by kernel_rfl
theorem Tryz.u5 : Tryz.abEnv.und 5 = some (.int .u8) := by kernel_rfl
theorem Tryz.a5 : Tryz.abEnv.agg 5 = some false := by kernel_rfl
theorem Tryz.s5 : Tryz.abEnv.sz 5 = some 1 := by kernel_rfl
theorem Tryz.z5 : Tryz.abEnv.zero 5 = some [.int .u8 0] := by kernel_rfl
theorem Tryz.i5 : isStr Tryz.abEnv 5 = true := by kernel_rfl
theorem Tryz.e5E : ElemIs Tryz.abEnv 5 1 1 [.int .u8 0] := ⟨⟨_, rfl, by kernel_rfl, by kernel_rfl⟩, Tryz.z5, rfl⟩
theorem Tryz.u6 : Tryz.abEnv.und 6 = some (.int .u8) := by kernel_rfl
theorem Tryz.a6 : Tryz.abEnv.agg 6 = some false := by kernel_rfl
theorem Tryz.s6 : Tryz.abEnv.sz 6 = some 1 := by kernel_rfl
theorem Tryz.z6 : Tryz.abEnv.zero 6 = some [.int .u8 0] := by kernel_rfl
theorem Tryz.i6 : isStr Tryz.abEnv 6 = true := by kernel_rfl
theorem Tryz.a7 : Tryz.abEnv.agg 7 = some true := by kernel_rfl
theorem Tryz.s7 : Tryz.abEnv.sz 7 = some 4 := by kernel_rfl
theorem Tryz.z7 : Tryz.abEnv.zero 7 = some [.int .i64 0, .int .i64 0, .bool false, .int .u8 0] := by kernel_rfl
theorem Tryz.i7 : isStr Tryz.abEnv 7 = true := by kernel_rfl
theorem Tryz.n7 : intTy Tryz.abEnv 7 = some false := by kernel_rfl
theorem Tryz.p7 : placesOf Tryz.abEnv 7 = some [(0, 1), (1, 1), (2, 1), (3, 1)] := by kernel_rfl
theorem Tryz.ff7 (b o : Nat) (s : Option Nat) : fieldAddrP Tryz.abEnv 7 (.pointer (some ⟨b, o, s⟩)) 0 = some (.pointer (some ⟨b, o + 0, none⟩)) ∧ fieldAddrP Tryz.abEnv 7 (.pointer (some ⟨b, o, s⟩)) 1 = some (.pointer (some ⟨b, o + 1, none⟩)) ∧ fieldAddrP Tryz.abEnv 7 (.pointer (some ⟨b, o, s⟩)) 2 = some (.pointer (some ⟨b, o + 2, none⟩)) ∧ fieldAddrP Tryz.abEnv 7 (.pointer (some ⟨b, o, s⟩)) 3 = some (.pointer (some ⟨b, o + 3, none⟩)) := ⟨rfl, rfl, rfl, rfl⟩
theorem Tryz.d7 (x0 x1 x2 x3 : Value) : fieldP Tryz.abEnv 7 (.agg ⟨[x0, x1, x2, x3]⟩) 0 = some x0 ∧ fieldP Tryz.abEnv 7 (.agg ⟨[x0, x1, x2, x3]⟩) 1 = some x1 ∧ fieldP Tryz.abEnv 7 (.agg ⟨[x0, x1, x2, x3]⟩) 2 = some x2 ∧ fieldP Tryz.abEnv 7 (.agg ⟨[x0, x1, x2, x3]⟩) 3 = some x3 := ⟨rfl, rfl, rfl, rfl⟩
theorem Tryz.a8 : Tryz.abEnv.agg 8 = some true := by kernel_rfl
theorem Tryz.s8 : Tryz.abEnv.sz 8 = some 4 := by kernel_rfl
theorem Tryz.z8 : Tryz.abEnv.zero 8 = some [.int .i64 0, .int .i64 0, .bool false, .int .u8 0] := by kernel_rfl
theorem Tryz.i8 : isStr Tryz.abEnv 8 = true := by kernel_rfl
theorem Tryz.n8 : intTy Tryz.abEnv 8 = some false := by kernel_rfl
theorem Tryz.p8 : placesOf Tryz.abEnv 8 = some [(0, 1), (1, 1), (2, 1), (3, 1)] := by kernel_rfl
theorem Tryz.ff8 (b o : Nat) (s : Option Nat) : fieldAddrP Tryz.abEnv 8 (.pointer (some ⟨b, o, s⟩)) 0 = some (.pointer (some ⟨b, o + 0, none⟩)) ∧ fieldAddrP Tryz.abEnv 8 (.pointer (some ⟨b, o, s⟩)) 1 = some (.pointer (some ⟨b, o + 1, none⟩)) ∧ fieldAddrP Tryz.abEnv 8 (.pointer (some ⟨b, o, s⟩)) 2 = some (.pointer (some ⟨b, o + 2, none⟩)) ∧ fieldAddrP Tryz.abEnv 8 (.pointer (some ⟨b, o, s⟩)) 3 = some (.pointer (some ⟨b, o + 3, none⟩)) := ⟨rfl, rfl, rfl, rfl⟩
theorem Tryz.d8 (x0 x1 x2 x3 : Value) : fieldP Tryz.abEnv 8 (.agg ⟨[x0, x1, x2, x3]⟩) 0 = some x0 ∧ fieldP Tryz.abEnv 8 (.agg ⟨[x0, x1, x2, x3]⟩) 1 = some x1 ∧ fieldP Tryz.abEnv 8 (.agg ⟨[x0, x1, x2, x3]⟩) 2 = some x2 ∧ fieldP Tryz.abEnv 8 (.agg ⟨[x0, x1, x2, x3]⟩) 3 = some x3 := ⟨rfl, rfl, rfl, rfl⟩
theorem Tryz.u9 : Tryz.abEnv.und 9 = some .string := by kernel_rfl
theorem Tryz.a9 : Tryz.abEnv.agg 9 = some false := by kernel_rfl
theorem Tryz.s9 : Tryz.abEnv.sz 9 = some 1 := by kernel_rfl
theorem Tryz.z9 : Tryz.abEnv.zero 9 = some [.string ⟨#[]⟩] := by kernel_rfl
theorem Tryz.n9 : intTy Tryz.abEnv 9 = some false := by kernel_rfl
theorem Tryz.u10 : Tryz.abEnv.und 10 = some .string := by kernel_rfl
theorem Tryz.a10 : Tryz.abEnv.agg 10 = some false := by kernel_rfl
theorem Tryz.s10 : Tryz.abEnv.sz 10 = some 1 := by kernel_rfl
theorem Tryz.z10 : Tryz.abEnv.zero 10 = some [.string ⟨#[]⟩] := by kernel_rfl
theorem Tryz.n10 : intTy Tryz.abEnv 10 = some false := by kernel_rfl
theorem Tryz.u11 : Tryz.abEnv.und 11 = some .string := by kernel_rfl
theorem Tryz.a11 : Tryz.abEnv.agg 11 = some false := by kernel_rfl
theorem Tryz.s11 : Tryz.abEnv.sz 11 = some 1 := by kernel_rfl
theorem Tryz.z11 : Tryz.abEnv.zero 11 = some [.string ⟨#[]⟩] := by kernel_rfl
theorem Tryz.n11 : intTy Tryz.abEnv 11 = some false := by kernel_rfl
theorem Tryz.u12 : Tryz.abEnv.und 12 = some (.int .u64) := by kernel_rfl
theorem Tryz.a12 : Tryz.abEnv.agg 12 = some false := by kernel_rfl
theorem Tryz.s12 : Tryz.abEnv.sz 12 = some 1 := by kernel_rfl
theorem Tryz.z12 : Tryz.abEnv.zero 12 = some [.int .u64 0] := by kernel_rfl
theorem Tryz.i12 : isStr Tryz.abEnv 12 = true := by kernel_rfl
theorem Tryz.a13 : Tryz.abEnv.agg 13 = some true := by kernel_rfl
theorem Tryz.s13 : Tryz.abEnv.sz 13 = some 2 := by kernel_rfl
theorem Tryz.z13 : Tryz.abEnv.zero 13 = some [.string ⟨#[]⟩, .int .u64 0] := by kernel_rfl
theorem Tryz.i13 : isStr Tryz.abEnv 13 = true := by kernel_rfl
theorem Tryz.n13 : intTy Tryz.abEnv 13 = some false := by kernel_rfl
theorem Tryz.p13 : placesOf Tryz.abEnv 13 = some [(0, 1), (1, 1)] := by kernel_rfl
theorem Tryz.ff13 (b o : Nat) (s : Option Nat) : fieldAddrP Tryz.abEnv 13 (.pointer (some ⟨b, o, s⟩)) 0 = some (.pointer (some ⟨b, o + 0, none⟩)) ∧ fieldAddrP Tryz.abEnv 13 (.pointer (some ⟨b, o, s⟩)) 1 = some (.pointer (some ⟨b, o + 1, none⟩)) := ⟨rfl, rfl⟩
theorem Tryz.d13 (x0 x1 : Value) : fieldP Tryz.abEnv 13 (.agg ⟨[x0, x1]⟩) 0 = some x0 ∧ fieldP Tryz.abEnv 13 (.agg ⟨[x0, x1]⟩) 1 = some x1 := ⟨rfl, rfl⟩
theorem Tryz.a14 : Tryz.abEnv.agg 14 = some true := by kernel_rfl
theorem Tryz.s14 : Tryz.abEnv.sz 14 = some 2 := by kernel_rfl
theorem Tryz.z14 : Tryz.abEnv.zero 14 = some [.string ⟨#[]⟩, .int .u64 0] := by kernel_rfl
theorem Tryz.i14 : isStr Tryz.abEnv 14 = true := by kernel_rfl
theorem Tryz.n14 : intTy Tryz.abEnv 14 = some false := by kernel_rfl
theorem Tryz.p14 : placesOf Tryz.abEnv 14 = some [(0, 1), (1, 1)] := by kernel_rfl
theorem Tryz.ff14 (b o : Nat) (s : Option Nat) : fieldAddrP Tryz.abEnv 14 (.pointer (some ⟨b, o, s⟩)) 0 = some (.pointer (some ⟨b, o + 0, none⟩)) ∧ fieldAddrP Tryz.abEnv 14 (.pointer (some ⟨b, o, s⟩)) 1 = some (.pointer (some ⟨b, o + 1, none⟩)) := ⟨rfl, rfl⟩
theorem Tryz.d14 (x0 x1 : Value) : fieldP Tryz.abEnv 14 (.agg ⟨[x0, x1]⟩) 0 = some x0 ∧ fieldP Tryz.abEnv 14 (.agg ⟨[x0, x1]⟩) 1 = some x1 := ⟨rfl, rfl⟩
theorem Tryz.u15 : Tryz.abEnv.und 15 = some (.pointer 237) := by kernel_rfl
theorem Tryz.a15 : Tryz.abEnv.agg 15 = some false := by kernel_rfl
theorem Tryz.s15 : Tryz.abEnv.sz 15 = some 1 := by kernel_rfl
theorem Tryz.z15 : Tryz.abEnv.zero 15 = some [.pointer none] := by kernel_rfl
theorem Tryz.q15 : isPtr Tryz.abEnv 15 = true := by kernel_rfl
theorem Tryz.i15 : isStr Tryz.abEnv 15 = true := by kernel_rfl
theorem Tryz.n15 : intTy Tryz.abEnv 15 = some false := by kernel_rfl
theorem Tryz.u17 : Tryz.abEnv.und 17 = some (.pointer 248) := by kernel_rfl
theorem Tryz.a17 : Tryz.abEnv.agg 17 = some false := by kernel_rfl
theorem Tryz.s17 : Tryz.abEnv.sz 17 = some 1 := by kernel_rfl
theorem Tryz.z17 : Tryz.abEnv.zero 17 = some [.pointer none] := by kernel_rfl
theorem Tryz.q17 : isPtr Tryz.abEnv 17 = true := by kernel_rfl
theorem Tryz.i17 : isStr Tryz.abEnv 17 = true := by kernel_rfl
theorem Tryz.n17 : intTy Tryz.abEnv 17 = some false := by kernel_rfl
theorem Tryz.u22 : Tryz.abEnv.und 22 = some (.slice 5) := by kernel_rfl
theorem Tryz.a22 : Tryz.abEnv.agg 22 = some false := by kernel_rfl
theorem Tryz.s22 : Tryz.abEnv.sz 22 = some 1 := by kernel_rfl
theorem Tryz.z22 : Tryz.abEnv.zero 22 = some [.slice none 0 0] := by kernel_rfl
theorem Tryz.q22 : isSl Tryz.abEnv 22 = true := by kernel_rfl
theorem Tryz.n22 : intTy Tryz.abEnv 22 = some false := by kernel_rfl
theorem Tryz.u23 : Tryz.abEnv.und 23 = some (.slice 41) := by kernel_rfl
theorem Tryz.a23 : Tryz.abEnv.agg 23 = some false := by kernel_rfl
theorem Tryz.s23 : Tryz.abEnv.sz 23 = some 1 := by kernel_rfl
theorem Tryz.z23 : Tryz.abEnv.zero 23 = some [.slice none 0 0] := by kernel_rfl
theorem Tryz.q23 : isSl Tryz.abEnv 23 = true := by kernel_rfl
theorem Tryz.n23 : intTy Tryz.abEnv 23 = some false := by kernel_rfl
theorem Tryz.u24 : Tryz.abEnv.und 24 = some (.slice 2) := by kernel_rfl
theorem Tryz.a24 : Tryz.abEnv.agg 24 = some false := by kernel_rfl
theorem Tryz.s24 : Tryz.abEnv.sz 24 = some 1 := by kernel_rfl
theorem Tryz.z24 : Tryz.abEnv.zero 24 = some [.slice none 0 0] := by kernel_rfl
theorem Tryz.q24 : isSl Tryz.abEnv 24 = true := by kernel_rfl
theorem Tryz.n24 : intTy Tryz.abEnv 24 = some false := by kernel_rfl
theorem Tryz.e24E : ElemIs Tryz.abEnv 24 24 1 [.slice none 0 0] := ⟨⟨_, rfl, by kernel_rfl, by kernel_rfl⟩, Tryz.z24, rfl⟩
theorem Tryz.u25 : Tryz.abEnv.und 25 = some (.slice 51) := by kernel_rfl
theorem Tryz.a25 : Tryz.abEnv.agg 25 = some false := by kernel_rfl
theorem Tryz.s25 : Tryz.abEnv.sz 25 = some 1 := by kernel_rfl
theorem Tryz.z25 : Tryz.abEnv.zero 25 = some [.slice none 0 0] := by kernel_rfl
theorem Tryz.q25 : isSl Tryz.abEnv 25 = true := by kernel_rfl
theorem Tryz.n25 : intTy Tryz.abEnv 25 = some false := by kernel_rfl
theorem Tryz.a27 : Tryz.abEnv.agg 27 = some true := by kernel_rfl
theorem Tryz.s27 : Tryz.abEnv.sz 27 = some 4 := by kernel_rfl
theorem Tryz.z27 : Tryz.abEnv.zero 27 = some [.int .i64 0, .slice none 0 0, .slice none 0 0, .slice none 0 0] := by kernel_rfl
theorem Tryz.i27 : isStr Tryz.abEnv 27 = true := by kernel_rfl
theorem Tryz.n27 : intTy Tryz.abEnv 27 = some false := by kernel_rfl
theorem Tryz.p27 : placesOf Tryz.abEnv 27 = some [(0, 1), (1, 1), (2, 1), (3, 1)] := by kernel_rfl
theorem Tryz.ff27 (b o : Nat) (s : Option Nat) : fieldAddrP Tryz.abEnv 27 (.pointer (some ⟨b, o, s⟩)) 0 = some (.pointer (some ⟨b, o + 0, none⟩)) ∧ fieldAddrP Tryz.abEnv 27 (.pointer (some ⟨b, o, s⟩)) 1 = some (.pointer (some ⟨b, o + 1, none⟩)) ∧ fieldAddrP Tryz.abEnv 27 (.pointer (some ⟨b, o, s⟩)) 2 = some (.pointer (some ⟨b, o + 2, none⟩)) ∧ fieldAddrP Tryz.abEnv 27 (.pointer (some ⟨b, o, s⟩)) 3 = some (.pointer (some ⟨b, o + 3, none⟩)) := ⟨rfl, rfl, rfl, rfl⟩
theorem Tryz.d27 (x0 x1 x2 x3 : Value) : fieldP Tryz.abEnv 27 (.agg ⟨[x0, x1, x2, x3]⟩) 0 = some x0 ∧ fieldP Tryz.abEnv 27 (.agg ⟨[x0, x1, x2, x3]⟩) 1 = some x1 ∧ fieldP Tryz.abEnv 27 (.agg ⟨[x0, x1, x2, x3]⟩) 2 = some x2 ∧ fieldP Tryz.abEnv 27 (.agg ⟨[x0, x1, x2, x3]⟩) 3 = some x3 := ⟨rfl, rfl, rfl, rfl⟩
theorem Tryz.u29 : Tryz.abEnv.und 29 = some (.pointer 128) := by kernel_rfl
theorem Tryz.a29 : Tryz.abEnv.agg 29 = some false := by kernel_rfl
theorem Tryz.s29 : Tryz.abEnv.sz 29 = some 1 := by kernel_rfl
theorem Tryz.z29 : Tryz.abEnv.zero 29 = some [.pointer none] := by kernel_rfl
theorem Tryz.q29 : isPtr Tryz.abEnv 29 = true := by kernel_rfl
theorem Tryz.i29 : isStr Tryz.abEnv 29 = true := by kernel_rfl
theorem Tryz.n29 : intTy Tryz.abEnv 29 = some false := by kernel_rfl
theorem Tryz.u31 : Tryz.abEnv.und 31 = some (.slice 3) := by kernel_rfl
theorem Tryz.a31 : Tryz.abEnv.agg 31 = some false := by kernel_rfl
theorem Tryz.s31 : Tryz.abEnv.sz 31 = some 1 := by kernel_rfl
theorem Tryz.z31 : Tryz.abEnv.zero 31 = some [.slice none 0 0] := by kernel_rfl
theorem Tryz.q31 : isSl Tryz.abEnv 31 = true := by kernel_rfl
theorem Tryz.n31 : intTy Tryz.abEnv 31 = some false := by kernel_rfl
theorem Tryz.e31E : ElemIs Tryz.abEnv 31 24 1 [.slice none 0 0] := ⟨⟨_, rfl, by kernel_rfl, by kernel_rfl⟩, Tryz.z31, rfl⟩
theorem Tryz.u32 : Tryz.abEnv.und 32 = some (.pointer 86) := by kernel_rfl
theorem Tryz.a32 : Tryz.abEnv.agg 32 = some false := by kernel_rfl
theorem Tryz.s32 : Tryz.abEnv.sz 32 = some 1 := by kernel_rfl
theorem Tryz.z32 : Tryz.abEnv.zero 32 = some [.pointer none] := by kernel_rfl
theorem Tryz.q32 : isPtr Tryz.abEnv 32 = true := by kernel_rfl
theorem Tryz.i32 : isStr Tryz.abEnv 32 = true := by kernel_rfl
theorem Tryz.n32 : intTy Tryz.abEnv 32 = some false := by kernel_rfl
theorem Tryz.u34 : Tryz.abEnv.und 34 = some (.slice 24) := by kernel_rfl
theorem Tryz.a34 : Tryz.abEnv.agg 34 = some false := by kernel_rfl
theorem Tryz.s34 : Tryz.abEnv.sz 34 = some 1 := by kernel_rfl
theorem Tryz.z34 : Tryz.abEnv.zero 34 = some [.slice none 0 0] := by kernel_rfl
theorem Tryz.q34 : isSl Tryz.abEnv 34 = true := by kernel_rfl
theorem Tryz.n34 : intTy Tryz.abEnv 34 = some false := by kernel_rfl
theorem Tryz.a36 : Tryz.abEnv.agg 36 = some true := by kernel_rfl
theorem Tryz.s36 : Tryz.abEnv.sz 36 = some 3 := by kernel_rfl
theorem Tryz.z36 : Tryz.abEnv.zero 36 = some [.slice none 0 0, .slice none 0 0, .slice none 0 0] := by kernel_rfl
theorem Tryz.i36 : isStr Tryz.abEnv 36 = true := by kernel_rfl
theorem Tryz.n36 : intTy Tryz.abEnv 36 = some false := by kernel_rfl
theorem Tryz.p36 : placesOf Tryz.abEnv 36 = some [(0, 1), (1, 1), (2, 1)] := by kernel_rfl
theorem Tryz.ff36 (b o : Nat) (s : Option Nat) : fieldAddrP Tryz.abEnv 36 (.pointer (some ⟨b, o, s⟩)) 0 = some (.pointer (some ⟨b, o + 0, none⟩)) ∧ fieldAddrP Tryz.abEnv 36 (.pointer (some ⟨b, o, s⟩)) 1 = some (.pointer (some ⟨b, o + 1, none⟩)) ∧ fieldAddrP Tryz.abEnv 36 (.pointer (some ⟨b, o, s⟩)) 2 = some (.pointer (some ⟨b, o + 2, none⟩)) := ⟨rfl, rfl, rfl⟩
theorem Tryz.d36 (x0 x1 x2 : Value) : fieldP Tryz.abEnv 36 (.agg ⟨[x0, x1, x2]⟩) 0 = some x0 ∧ fieldP Tryz.abEnv 36 (.agg ⟨[x0, x1, x2]⟩) 1 = some x1 ∧ fieldP Tryz.abEnv 36 (.agg ⟨[x0, x1, x2]⟩) 2 = some x2 := ⟨rfl, rfl, rfl⟩
theorem Tryz.u41 : Tryz.abEnv.und 41 = some (.int .i8) := by kernel_rfl
theorem Tryz.a41 : Tryz.abEnv.agg 41 = some false := by kernel_rfl
theorem Tryz.s41 : Tryz.abEnv.sz 41 = some 1 := by kernel_rfl
theorem Tryz.z41 : Tryz.abEnv.zero 41 = some [.int .i8 0] := by kernel_rfl
theorem Tryz.i41 : isStr Tryz.abEnv 41 = true := by kernel_rfl
theorem Tryz.e41E : ElemIs Tryz.abEnv 41 1 1 [.int .i8 0] := ⟨⟨_, rfl, by kernel_rfl, by kernel_rfl⟩, Tryz.z41, rfl⟩
theorem Tryz.a51 : Tryz.abEnv.agg 51 = some true := by kernel_rfl
theorem Tryz.s51 : Tryz.abEnv.sz 51 = some 3 := by kernel_rfl
theorem Tryz.z51 : Tryz.abEnv.zero 51 = some [.int .i64 0, .int .i64 0, .int .i64 0] := by kernel_rfl
theorem Tryz.i51 : isStr Tryz.abEnv 51 = true := by kernel_rfl
theorem Tryz.n51 : intTy Tryz.abEnv 51 = some false := by kernel_rfl
theorem Tryz.p51 : placesOf Tryz.abEnv 51 = some [(0, 1), (1, 1), (2, 1)] := by kernel_rfl
theorem Tryz.ff51 (b o : Nat) (s : Option Nat) : fieldAddrP Tryz.abEnv 51 (.pointer (some ⟨b, o, s⟩)) 0 = some (.pointer (some ⟨b, o + 0, none⟩)) ∧ fieldAddrP Tryz.abEnv 51 (.pointer (some ⟨b, o, s⟩)) 1 = some (.pointer (some ⟨b, o + 1, none⟩)) ∧ fieldAddrP Tryz.abEnv 51 (.pointer (some ⟨b, o, s⟩)) 2 = some (.pointer (some ⟨b, o + 2, none⟩)) := ⟨rfl, rfl, rfl⟩
theorem Tryz.d51 (x0 x1 x2 : Value) : fieldP Tryz.abEnv 51 (.agg ⟨[x0, x1, x2]⟩) 0 = some x0 ∧ fieldP Tryz.abEnv 51 (.agg ⟨[x0, x1, x2]⟩) 1 = some x1 ∧ fieldP Tryz.abEnv 51 (.agg ⟨[x0, x1, x2]⟩) 2 = some x2 := ⟨rfl, rfl, rfl⟩
theorem Tryz.e51E : ElemIs Tryz.abEnv 51 24 3 [.int .i64 0, .int .i64 0, .int .i64 0] := ⟨⟨_, rfl, by kernel_rfl, by kernel_rfl⟩, Tryz.z51, rfl⟩
theorem Tryz.a86 : Tryz.abEnv.agg 86 = some true := by kernel_rfl
theorem Tryz.s86 : Tryz.abEnv.sz 86 = some 4 := by kernel_rfl
theorem Tryz.z86 : Tryz.abEnv.zero 86 = some [.int .i64 0, .slice none 0 0, .slice none 0 0, .slice none 0 0] := by kernel_rfl
theorem Tryz.i86 : isStr Tryz.abEnv 86 = true := by kernel_rfl
theorem Tryz.n86 : intTy Tryz.abEnv 86 = some false := by kernel_rfl
theorem Tryz.p86 : placesOf Tryz.abEnv 86 = some [(0, 1), (1, 1), (2, 1), (3, 1)] := by kernel_rfl
theorem Tryz.ff86 (b o : Nat) (s : Option Nat) : fieldAddrP Tryz.abEnv 86 (.pointer (some ⟨b, o, s⟩)) 0 = some (.pointer (some ⟨b, o + 0, none⟩)) ∧ fieldAddrP Tryz.abEnv 86 (.pointer (some ⟨b, o, s⟩)) 1 = some (.pointer (some ⟨b, o + 1, none⟩)) ∧ fieldAddrP Tryz.abEnv 86 (.pointer (some ⟨b, o, s⟩)) 2 = some (.pointer (some ⟨b, o + 2, none⟩)) ∧ fieldAddrP Tryz.abEnv 86 (.pointer (some ⟨b, o, s⟩)) 3 = some (.pointer (some ⟨b, o + 3, none⟩)) := ⟨rfl, rfl, rfl, rfl⟩
theorem Tryz.d86 (x0 x1 x2 x3 : Value) : fieldP Tryz.abEnv 86 (.agg ⟨[x0, x1, x2, x3]⟩) 0 = some x0 ∧ fieldP Tryz.abEnv 86 (.agg ⟨[x0, x1, x2, x3]⟩) 1 = some x1 ∧ fieldP Tryz.abEnv 86 (.agg ⟨[x0, x1, x2, x3]⟩) 2 = some x2 ∧ fieldP Tryz.abEnv 86 (.agg ⟨[x0, x1, x2, x3]⟩) 3 = some x3 := ⟨rfl, rfl, rfl, rfl⟩
theorem Tryz.u126 : Tryz.abEnv.und 126 = some (.slice 31) := by kernel_rfl
theorem Tryz.a126 : Tryz.abEnv.agg 126 = some false := by kernel_rfl
theorem Tryz.s126 : Tryz.abEnv.sz 126 = some 1 := by kernel_rfl
theorem Tryz.z126 : Tryz.abEnv.zero 126 = some [.slice none 0 0] := by kernel_rfl
theorem Tryz.q126 : isSl Tryz.abEnv 126 = true := by kernel_rfl
theorem Tryz.n126 : intTy Tryz.abEnv 126 = some false := by kernel_rfl
theorem Tryz.a128 : Tryz.abEnv.agg 128 = some true := by kernel_rfl
theorem Tryz.s128 : Tryz.abEnv.sz 128 = some 6 := by kernel_rfl
theorem Tryz.z128 : Tryz.abEnv.zero 128 = some [.int .i64 0, .slice none 0 0, .slice none 0 0, .slice none 0 0, .slice none 0 0, .slice none 0 0] := by kernel_rfl
theorem Tryz.i128 : isStr Tryz.abEnv 128 = true := by kernel_rfl
theorem Tryz.n128 : intTy Tryz.abEnv 128 = some false := by kernel_rfl
theorem Tryz.p128 : placesOf Tryz.abEnv 128 = some [(0, 4), (4, 1), (5, 1)] := by kernel_rfl
theorem Tryz.ff128 (b o : Nat) (s : Option Nat) : fieldAddrP Tryz.abEnv 128 (.pointer (some ⟨b, o, s⟩)) 0 = some (.pointer (some ⟨b, o + 0, none⟩)) ∧ fieldAddrP Tryz.abEnv 128 (.pointer (some ⟨b, o, s⟩)) 1 = some (.pointer (some ⟨b, o + 4, none⟩)) ∧ fieldAddrP Tryz.abEnv 128 (.pointer (some ⟨b, o, s⟩)) 2 = some (.pointer (some ⟨b, o + 5, none⟩)) := ⟨rfl, rfl, rfl⟩
theorem Tryz.d128 (x0 x1 x2 x3 x4 x5 : Value) : fieldP Tryz.abEnv 128 (.agg ⟨[x0, x1, x2, x3, x4, x5]⟩) 0 = some (.agg ⟨[x0, x1, x2, x3]⟩) ∧ fieldP Tryz.abEnv 128 (.agg ⟨[x0, x1, x2, x3, x4, x5]⟩) 1 = some x4 ∧ fieldP Tryz.abEnv 128 (.agg ⟨[x0, x1, x2, x3, x4, x5]⟩) 2 = some x5 := ⟨rfl, rfl, rfl⟩
theorem Tryz.a237 : Tryz.abEnv.agg 237 = some true := by kernel_rfl
theorem Tryz.s237 : Tryz.abEnv.sz 237 = some 4 := by kernel_rfl
theorem Tryz.z237 : Tryz.abEnv.zero 237 = some [.pointer none, .pointer none, .pointer none, .string ⟨#[]⟩] := by kernel_rfl
theorem Tryz.i237 : isStr Tryz.abEnv 237 = true := by kernel_rfl
theorem Tryz.n237 : intTy Tryz.abEnv 237 = some false := by kernel_rfl
theorem Tryz.p237 : placesOf Tryz.abEnv 237 = some [(0, 1), (1, 1), (2, 1), (3, 1)] := by kernel_rfl
theorem Tryz.ff237 (b o : Nat) (s : Option Nat) : fieldAddrP Tryz.abEnv 237 (.pointer (some ⟨b, o, s⟩)) 0 = some (.pointer (some ⟨b, o + 0, none⟩)) ∧ fieldAddrP Tryz.abEnv 237 (.pointer (some ⟨b, o, s⟩)) 1 = some (.pointer (some ⟨b, o + 1, none⟩)) ∧ fieldAddrP Tryz.abEnv 237 (.pointer (some ⟨b, o, s⟩)) 2 = some (.pointer (some ⟨b, o + 2, none⟩)) ∧ fieldAddrP Tryz.abEnv 237 (.pointer (some ⟨b, o, s⟩)) 3 = some (.pointer (some ⟨b, o + 3, none⟩)) := ⟨rfl, rfl, rfl, rfl⟩
theorem Tryz.d237 (x0 x1 x2 x3 : Value) : fieldP Tryz.abEnv 237 (.agg ⟨[x0, x1, x2, x3]⟩) 0 = some x0 ∧ fieldP Tryz.abEnv 237 (.agg ⟨[x0, x1, x2, x3]⟩) 1 = some x1 ∧ fieldP Tryz.abEnv 237 (.agg ⟨[x0, x1, x2, x3]⟩) 2 = some x2 ∧ fieldP Tryz.abEnv 237 (.agg ⟨[x0, x1, x2, x3]⟩) 3 = some x3 := ⟨rfl, rfl, rfl, rfl⟩
theorem Tryz.e3 : Tryz.abEnv.fn 3 = some Tryz.f3 := by kernel_rfl
theorem Tryz.u16 : Tryz.abEnv.und 16 = some (.pointer 240) := by kernel_rfl
theorem Tryz.a16 : Tryz.abEnv.agg 16 = some false := by kernel_rfl
theorem Tryz.s16 : Tryz.abEnv.sz 16 = some 1 := by kernel_rfl
theorem Tryz.z16 : Tryz.abEnv.zero 16 = some [.pointer none] := by kernel_rfl
theorem Tryz.q16 : isPtr Tryz.abEnv 16 = true := by kernel_rfl
theorem Tryz.i16 : isStr Tryz.abEnv 16 = true := by kernel_rfl
theorem Tryz.n16 : intTy Tryz.abEnv 16 = some false := by kernel_rfl
theorem Tryz.a18 : Tryz.abEnv.agg 18 = some true := by kernel_rfl
theorem Tryz.s18 : Tryz.abEnv.sz 18 = some 1 := by kernel_rfl
theorem Tryz.z18 : Tryz.abEnv.zero 18 = some [.pointer none] := by kernel_rfl
theorem Tryz.i18 : isStr Tryz.abEnv 18 = true := by kernel_rfl
theorem Tryz.n18 : intTy Tryz.abEnv 18 = some false := by kernel_rfl
theorem Tryz.p18 : placesOf Tryz.abEnv 18 = some [(0, 1)] := by kernel_rfl
theorem Tryz.ff18 (b o : Nat) (s : Option Nat) : fieldAddrP Tryz.abEnv 18 (.pointer (some ⟨b, o, s⟩)) 0 = some (.pointer (some ⟨b, o + 0, none⟩)) := rfl
theorem Tryz.d18 (x0 : Value) : fieldP Tryz.abEnv 18 (.agg ⟨[x0]⟩) 0 = some x0 := rfl
theorem Tryz.a19 : Tryz.abEnv.agg 19 = some true := by kernel_rfl
theorem Tryz.s19 : Tryz.abEnv.sz 19 = some 1 := by kernel_rfl
theorem Tryz.z19 : Tryz.abEnv.zero 19 = some [.pointer none] := by kernel_rfl
theorem Tryz.i19 : isStr Tryz.abEnv 19 = true := by kernel_rfl
theorem Tryz.n19 : intTy Tryz.abEnv 19 = some false := by kernel_rfl
theorem Tryz.p19 : placesOf Tryz.abEnv 19 = some [(0, 1)] := by kernel_rfl
theorem Tryz.ff19 (b o : Nat) (s : Option Nat) : fieldAddrP Tryz.abEnv 19 (.pointer (some ⟨b, o, s⟩)) 0 = some (.pointer (some ⟨b, o + 0, none⟩)) := rfl
theorem Tryz.d19 (x0 : Value) : fieldP Tryz.abEnv 19 (.agg ⟨[x0]⟩) 0 = some x0 := rfl
theorem Tryz.a20 : Tryz.abEnv.agg 20 = some false := by kernel_rfl
theorem Tryz.s20 : Tryz.abEnv.sz 20 = some 1 := by kernel_rfl
theorem Tryz.z20 : Tryz.abEnv.zero 20 = some [.nilIface] := by kernel_rfl
theorem Tryz.q20 : isIface Tryz.abEnv 20 = true := by kernel_rfl
theorem Tryz.n20 : intTy Tryz.abEnv 20 = some false := by kernel_rfl
theorem Tryz.u21 : Tryz.abEnv.und 21 = some (.int .i32) := by kernel_rfl
theorem Tryz.a21 : Tryz.abEnv.agg 21 = some false := by kernel_rfl
theorem Tryz.s21 : Tryz.abEnv.sz 21 = some 1 := by kernel_rfl
theorem Tryz.z21 : Tryz.abEnv.zero 21 = some [.int .i32 0] := by kernel_rfl
theorem Tryz.i21 : isStr Tryz.abEnv 21 = true := by kernel_rfl
theorem Tryz.a48 : Tryz.abEnv.agg 48 = some true := by kernel_rfl
theorem Tryz.s48 : Tryz.abEnv.sz 48 = some 3 := by kernel_rfl
theorem Tryz.z48 : Tryz.abEnv.zero 48 = some [.slice none 0 0, .slice none 0 0, .slice none 0 0] := by kernel_rfl
theorem Tryz.i48 : isStr Tryz.abEnv 48 = true := by kernel_rfl
theorem Tryz.n48 : intTy Tryz.abEnv 48 = some false := by kernel_rfl
theorem Tryz.p48 : placesOf Tryz.abEnv 48 = some [(0, 1), (1, 1), (2, 1)] := by kernel_rfl
theorem Tryz.ff48 (b o : Nat) (s : Option Nat) : fieldAddrP Tryz.abEnv 48 (.pointer (some ⟨b, o, s⟩)) 0 = some (.pointer (some ⟨b, o + 0, none⟩)) ∧ fieldAddrP Tryz.abEnv 48 (.pointer (some ⟨b, o, s⟩)) 1 = some (.pointer (some ⟨b, o + 1, none⟩)) ∧ fieldAddrP Tryz.abEnv 48 (.pointer (some ⟨b, o, s⟩)) 2 = some (.pointer (some ⟨b, o + 2, none⟩)) := ⟨rfl, rfl, rfl⟩
theorem Tryz.d48 (x0 x1 x2 : Value) : fieldP Tryz.abEnv 48 (.agg ⟨[x0, x1, x2]⟩) 0 = some x0 ∧ fieldP Tryz.abEnv 48 (.agg ⟨[x0, x1, x2]⟩) 1 = some x1 ∧ fieldP Tryz.abEnv 48 (.agg ⟨[x0, x1, x2]⟩) 2 = some x2 := ⟨rfl, rfl, rfl⟩
theorem Tryz.u199 : Tryz.abEnv.und 199 = some (.int .u8) := by kernel_rfl
theorem Tryz.a199 : Tryz.abEnv.agg 199 = some false := by kernel_rfl
theorem Tryz.s199 : Tryz.abEnv.sz 199 = some 1 := by kernel_rfl
theorem Tryz.z199 : Tryz.abEnv.zero 199 = some [.int .u8 0] := by kernel_rfl
theorem Tryz.i199 : isStr Tryz.abEnv 199 = true := by kernel_rfl
theorem Tryz.u203 : Tryz.abEnv.und 203 = some (.int .u32) := by kernel_rfl
theorem Tryz.a203 : Tryz.abEnv.agg 203 = some false := by kernel_rfl
theorem Tryz.s203 : Tryz.abEnv.sz 203 = some 1 := by kernel_rfl
theorem Tryz.z203 : Tryz.abEnv.zero 203 = some [.int .u32 0] := by kernel_rfl
theorem Tryz.i203 : isStr Tryz.abEnv 203 = true := by kernel_rfl
theorem Tryz.u238 : Tryz.abEnv.und 238 = some (.array 0 16) := by kernel_rfl
theorem Tryz.a238 : Tryz.abEnv.agg 238 = some true := by kernel_rfl
theorem Tryz.s238 : Tryz.abEnv.sz 238 = some 0 := by kernel_rfl
theorem Tryz.z238 : Tryz.abEnv.zero 238 = some [] := by kernel_rfl
theorem Tryz.n238 : intTy Tryz.abEnv 238 = some false := by kernel_rfl
theorem Tryz.a240 : Tryz.abEnv.agg 240 = some true := by kernel_rfl
theorem Tryz.s240 : Tryz.abEnv.sz 240 = some 0 := by kernel_rfl
theorem Tryz.z240 : Tryz.abEnv.zero 240 = some [] := by kernel_rfl
theorem Tryz.i240 : isStr Tryz.abEnv 240 = true := by kernel_rfl
theorem Tryz.n240 : intTy Tryz.abEnv 240 = some false := by kernel_rfl
theorem Tryz.u242 : Tryz.abEnv.und 242 = some (.int .u8) := by kernel_rfl
theorem Tryz.a242 : Tryz.abEnv.agg 242 = some false := by kernel_rfl
theorem Tryz.s242 : Tryz.abEnv.sz 242 = some 1 := by kernel_rfl
theorem Tryz.z242 : Tryz.abEnv.zero 242 = some [.int .u8 0] := by kernel_rfl
theorem Tryz.i242 : isStr Tryz.abEnv 242 = true := by kernel_rfl
theorem Tryz.a243 : Tryz.abEnv.agg 243 = some false := by kernel_rfl
theorem Tryz.s243 : Tryz.abEnv.sz 243 = some 1 := by kernel_rfl
theorem Tryz.z243 : Tryz.abEnv.zero 243 = some [.nilFunc] := by kernel_rfl
theorem Tryz.n243 : intTy Tryz.abEnv 243 = some false := by kernel_rfl
theorem Tryz.u244 : Tryz.abEnv.und 244 = some (.pointer 5) := by kernel_rfl
theorem Tryz.a244 : Tryz.abEnv.agg 244 = some false := by kernel_rfl
theorem Tryz.s244 : Tryz.abEnv.sz 244 = some 1 := by kernel_rfl
theorem Tryz.z244 : Tryz.abEnv.zero 244 = some [.pointer none] := by kernel_rfl
theorem Tryz.q244 : isPtr Tryz.abEnv 244 = true := by kernel_rfl
theorem Tryz.i244 : isStr Tryz.abEnv 244 = true := by kernel_rfl
theorem Tryz.n244 : intTy Tryz.abEnv 244 = some false := by kernel_rfl
theorem Tryz.u245 : Tryz.abEnv.und 245 = some (.int .i32) := by kernel_rfl
theorem Tryz.a245 : Tryz.abEnv.agg 245 = some false := by kernel_rfl
theorem Tryz.s245 : Tryz.abEnv.sz 245 = some 1 := by kernel_rfl
theorem Tryz.z245 : Tryz.abEnv.zero 245 = some [.int .i32 0] := by kernel_rfl
theorem Tryz.i245 : isStr Tryz.abEnv 245 = true := by kernel_rfl
theorem Tryz.u246 : Tryz.abEnv.und 246 = some (.int .i32) := by kernel_rfl
theorem Tryz.a246 : Tryz.abEnv.agg 246 = some false := by kernel_rfl
theorem Tryz.s246 : Tryz.abEnv.sz 246 = some 1 := by kernel_rfl
theorem Tryz.z246 : Tryz.abEnv.zero 246 = some [.int .i32 0] := by kernel_rfl
theorem Tryz.i246 : isStr Tryz.abEnv 246 = true := by kernel_rfl
theorem Tryz.a248 : Tryz.abEnv.agg 248 = some true := by kernel_rfl
theorem Tryz.s248 : Tryz.abEnv.sz 248 = some 11 := by kernel_rfl
theorem Tryz.z248 : Tryz.abEnv.zero 248 = some [.int .u64 0, .int .u64 0, .int .u32 0, .int .u8 0, .int .u8 0, .int .u8 0, .int .u8 0, .nilFunc, .pointer none, .int .i32 0, .int .i32 0] := by kernel_rfl
theorem Tryz.i248 : isStr Tryz.abEnv 248 = true := by kernel_rfl
theorem Tryz.n248 : intTy Tryz.abEnv 248 = some false := by kernel_rfl
theorem Tryz.p248 : placesOf Tryz.abEnv 248 = some [(0, 1), (1, 1), (2, 1), (3, 1), (4, 1), (5, 1), (6, 1), (7, 1), (8, 1), (9, 1), (10, 1)] := by kernel_rfl
theorem Tryz.ff248 (b o : Nat) (s : Option Nat) : fieldAddrP Tryz.abEnv 248 (.pointer (some ⟨b, o, s⟩)) 0 = some (.pointer (some ⟨b, o + 0, none⟩)) ∧ fieldAddrP Tryz.abEnv 248 (.pointer (some ⟨b, o, s⟩)) 1 = some (.pointer (some ⟨b, o + 1, none⟩)) ∧ fieldAddrP Tryz.abEnv 248 (.pointer (some ⟨b, o, s⟩)) 2 = some (.pointer (some ⟨b, o + 2, none⟩)) ∧ fieldAddrP Tryz.abEnv 248 (.pointer (some ⟨b, o, s⟩)) 3 = some (.pointer (some ⟨b, o + 3, none⟩)) ∧ fieldAddrP Tryz.abEnv 248 (.pointer (some ⟨b, o, s⟩)) 4 = some (.pointer (some ⟨b, o + 4, none⟩)) ∧ fieldAddrP Tryz.abEnv 248 (.pointer (some ⟨b, o, s⟩)) 5 = some (.pointer (some ⟨b, o + 5, none⟩)) ∧ fieldAddrP Tryz.abEnv 248 (.pointer (some ⟨b, o, s⟩)) 6 = some (.pointer (some ⟨b, o + 6, none⟩)) ∧ fieldAddrP Tryz.abEnv 248 (.pointer (some ⟨b, o, s⟩)) 7 = some (.pointer (some ⟨b, o + 7, none⟩)) ∧ fieldAddrP Tryz.abEnv 248 (.pointer (some ⟨b, o, s⟩)) 8 = some (.pointer (some ⟨b, o + 8, none⟩)) ∧ fieldAddrP Tryz.abEnv 248 (.pointer (some ⟨b, o, s⟩)) 9 = some (.pointer (some ⟨b, o + 9, none⟩)) ∧ fieldAddrP Tryz.abEnv 248 (.pointer (some ⟨b, o, s⟩)) 10 = some (.pointer (some ⟨b, o + 10, none⟩)) := ⟨rfl, rfl, rfl, rfl, rfl, rfl, rfl, rfl, rfl, rfl, rfl⟩
theorem Tryz.d248 (x0 x1 x2 x3 x4 x5 x6 x7 x8 x9 x10 : Value) : fieldP Tryz.abEnv 248 (.agg ⟨[x0, x1, x2, x3, x4, x5, x6, x7, x8, x9, x10]⟩) 0 = some x0 ∧ fieldP Tryz.abEnv 248 (.agg ⟨[x0, x1, x2, x3, x4, x5, x6, x7, x8, x9, x10]⟩) 1 = some x1 ∧ fieldP Tryz.abEnv 248 (.agg ⟨[x0, x1, x2, x3, x4, x5, x6, x7, x8, x9, x10]⟩) 2 = some x2 ∧ fieldP Tryz.abEnv 248 (.agg ⟨[x0, x1, x2, x3, x4, x5, x6, x7, x8, x9, x10]⟩) 3 = some x3 ∧ fieldP Tryz.abEnv 248 (.agg ⟨[x0, x1, x2, x3, x4, x5, x6, x7, x8, x9, x10]⟩) 4 = some x4 ∧ fieldP Tryz.abEnv 248 (.agg ⟨[x0, x1, x2, x3, x4, x5, x6, x7, x8, x9, x10]⟩) 5 = some x5 ∧ fieldP Tryz.abEnv 248 (.agg ⟨[x0, x1, x2, x3, x4, x5, x6, x7, x8, x9, x10]⟩) 6 = some x6 ∧ fieldP Tryz.abEnv 248 (.agg ⟨[x0, x1, x2, x3, x4, x5, x6, x7, x8, x9, x10]⟩) 7 = some x7 ∧ fieldP Tryz.abEnv 248 (.agg ⟨[x0, x1, x2, x3, x4, x5, x6, x7, x8, x9, x10]⟩) 8 = some x8 ∧ fieldP Tryz.abEnv 248 (.agg ⟨[x0, x1, x2, x3, x4, x5, x6, x7, x8, x9, x10]⟩) 9 = some x9 ∧ fieldP Tryz.abEnv 248 (.agg ⟨[x0, x1, x2, x3, x4, x5, x6, x7, x8, x9, x10]⟩) 10 = some x10 := ⟨rfl, rfl, rfl, rfl, rfl, rfl, rfl, rfl, rfl, rfl, rfl⟩
theorem Tryz.e4 : Tryz.abEnv.fn 4 = some Tryz.f4 := by kernel_rfl
theorem Tryz.u70 : Tryz.abEnv.und 70 = some (.pointer 72) := by kernel_rfl
theorem Tryz.a70 : Tryz.abEnv.agg 70 = some false := by kernel_rfl
theorem Tryz.s70 : Tryz.abEnv.sz 70 = some 1 := by kernel_rfl
theorem Tryz.z70 : Tryz.abEnv.zero 70 = some [.pointer none] := by kernel_rfl
theorem Tryz.q70 : isPtr Tryz.abEnv 70 = true := by kernel_rfl
theorem Tryz.i70 : isStr Tryz.abEnv 70 = true := by kernel_rfl
theorem Tryz.n70 : intTy Tryz.abEnv 70 = some false := by kernel_rfl
theorem Tryz.a72 : Tryz.abEnv.agg 72 = some true := by kernel_rfl
theorem Tryz.s72 : Tryz.abEnv.sz 72 = some 2 := by kernel_rfl
theorem Tryz.z72 : Tryz.abEnv.zero 72 = some [.slice none 0 0, .int .i64 0] := by kernel_rfl
theorem Tryz.i72 : isStr Tryz.abEnv 72 = true := by kernel_rfl
theorem Tryz.n72 : intTy Tryz.abEnv 72 = some false := by kernel_rfl
theorem Tryz.p72 : placesOf Tryz.abEnv 72 = some [(0, 1), (1, 1)] := by kernel_rfl
theorem Tryz.ff72 (b o : Nat) (s : Option Nat) : fieldAddrP Tryz.abEnv 72 (.pointer (some ⟨b, o, s⟩)) 0 = some (.pointer (some ⟨b, o + 0, none⟩)) ∧ fieldAddrP Tryz.abEnv 72 (.pointer (some ⟨b, o, s⟩)) 1 = some (.pointer (some ⟨b, o + 1, none⟩)) := ⟨rfl, rfl⟩
theorem Tryz.d72 (x0 x1 : Value) : fieldP Tryz.abEnv 72 (.agg ⟨[x0, x1]⟩) 0 = some x0 ∧ fieldP Tryz.abEnv 72 (.agg ⟨[x0, x1]⟩) 1 = some x1 := ⟨rfl, rfl⟩
theorem Tryz.e8 : Tryz.abEnv.fn 8 = some Tryz.f8 := by kernel_rfl
theorem Tryz.a75 : Tryz.abEnv.agg 75 = some false := by kernel_rfl
theorem Tryz.s75 : Tryz.abEnv.sz 75 = some 1 := by kernel_rfl
theorem Tryz.z75 : Tryz.abEnv.zero 75 = some [.nilIface] := by kernel_rfl
theorem Tryz.q75 : isIface Tryz.abEnv 75 = true := by kernel_rfl
theorem Tryz.n75 : intTy Tryz.abEnv 75 = some false := by kernel_rfl
theorem Tryz.e9 : Tryz.abEnv.fn 9 = some Tryz.f9 := by kernel_rfl
theorem Tryz.a49 : Tryz.abEnv.agg 49 = some false := by kernel_rfl
theorem Tryz.s49 : Tryz.abEnv.sz 49 = some 1 := by kernel_rfl
theorem Tryz.z49 : Tryz.abEnv.zero 49 = some [.nilFunc] := by kernel_rfl
theorem Tryz.n49 : intTy Tryz.abEnv 49 = some false := by kernel_rfl
theorem Tryz.a83 : Tryz.abEnv.agg 83 = some false := by kernel_rfl
theorem Tryz.s83 : Tryz.abEnv.sz 83 = some 1 := by kernel_rfl
theorem Tryz.z83 : Tryz.abEnv.zero 83 = some [.nilFunc] := by kernel_rfl
theorem Tryz.n83 : intTy Tryz.abEnv 83 = some false := by kernel_rfl
theorem Tryz.e10 : Tryz.abEnv.fn 10 = some Tryz.f10 := by kernel_rfl
theorem Tryz.e11 : Tryz.abEnv.fn 11 = some Tryz.f11 := by kernel_rfl
theorem Tryz.e12 : Tryz.abEnv.fn 12 = some Tryz.f12 := by kernel_rfl
theorem Tryz.a92 : Tryz.abEnv.agg 92 = some false := by kernel_rfl
theorem Tryz.s92 : Tryz.abEnv.sz 92 = some 1 := by kernel_rfl
theorem Tryz.z92 : Tryz.abEnv.zero 92 = some [.nilFunc] := by kernel_rfl
theorem Tryz.n92 : intTy Tryz.abEnv 92 = some false := by kernel_rfl
theorem Tryz.e13 : Tryz.abEnv.fn 13 = some Tryz.f13 := by kernel_rfl
theorem Tryz.e16 : Tryz.abEnv.fn 16 = some Tryz.f16 := by kernel_rfl
theorem Tryz.a94 : Tryz.abEnv.agg 94 = some false := by kernel_rfl
theorem Tryz.s94 : Tryz.abEnv.sz 94 = some 1 := by kernel_rfl
theorem Tryz.z94 : Tryz.abEnv.zero 94 = some [.nilFunc] := by kernel_rfl
theorem Tryz.n94 : intTy Tryz.abEnv 94 = some false := by kernel_rfl
theorem Tryz.e17 : Tryz.abEnv.fn 17 = some Tryz.f17 := by kernel_rfl
theorem Tryz.e18 : Tryz.abEnv.fn 18 = some Tryz.f18 := by kernel_rfl
theorem Tryz.a96 : Tryz.abEnv.agg 96 = some false := by kernel_rfl
theorem Tryz.s96 : Tryz.abEnv.sz 96 = some 1 := by kernel_rfl
theorem Tryz.z96 : Tryz.abEnv.zero 96 = some [.nilFunc] := by kernel_rfl
theorem Tryz.n96 : intTy Tryz.abEnv 96 = some false := by kernel_rfl
theorem Tryz.a97 : Tryz.abEnv.agg 97 = some false := by kernel_rfl
theorem Tryz.s97 : Tryz.abEnv.sz 97 = some 1 := by kernel_rfl
theorem Tryz.z97 : Tryz.abEnv.zero 97 = some [.nilFunc] := by kernel_rfl
theorem Tryz.n97 : intTy Tryz.abEnv 97 = some false := by kernel_rfl
theorem Tryz.e19 : Tryz.abEnv.fn 19 = some Tryz.f19 := by kernel_rfl
theorem Tryz.e20 : Tryz.abEnv.fn 20 = some Tryz.f20 := by kernel_rfl
theorem Tryz.e22 : Tryz.abEnv.fn 22 = some Tryz.f22 := by kernel_rfl
theorem Tryz.a103 : Tryz.abEnv.agg 103 = some false := by kernel_rfl
theorem Tryz.s103 : Tryz.abEnv.sz 103 = some 1 := by kernel_rfl
theorem Tryz.z103 : Tryz.abEnv.zero 103 = some [.nilFunc] := by kernel_rfl
theorem Tryz.n103 : intTy Tryz.abEnv 103 = some false := by kernel_rfl
theorem Tryz.e30 : Tryz.abEnv.fn 30 = some Tryz.f30 := by kernel_rfl
theorem Tryz.u116 : Tryz.abEnv.und 116 = some (.int .i64) := by kernel_rfl
theorem Tryz.a116 : Tryz.abEnv.agg 116 = some false := by kernel_rfl
theorem Tryz.s116 : Tryz.abEnv.sz 116 = some 1 := by kernel_rfl
theorem Tryz.z116 : Tryz.abEnv.zero 116 = some [.int .i64 0] := by kernel_rfl
theorem Tryz.i116 : isStr Tryz.abEnv 116 = true := by kernel_rfl
theorem Tryz.a118 : Tryz.abEnv.agg 118 = some true := by kernel_rfl
theorem Tryz.s118 : Tryz.abEnv.sz 118 = some 4 := by kernel_rfl
theorem Tryz.z118 : Tryz.abEnv.zero 118 = some [.int .i64 0, .int .i64 0, .int .i64 0, .int .i64 0] := by kernel_rfl
theorem Tryz.i118 : isStr Tryz.abEnv 118 = true := by kernel_rfl
theorem Tryz.n118 : intTy Tryz.abEnv 118 = some false := by kernel_rfl
theorem Tryz.p118 : placesOf Tryz.abEnv 118 = some [(0, 1), (1, 1), (2, 1), (3, 1)] := by kernel_rfl
theorem Tryz.ff118 (b o : Nat) (s : Option Nat) : fieldAddrP Tryz.abEnv 118 (.pointer (some ⟨b, o, s⟩)) 0 = some (.pointer (some ⟨b, o + 0, none⟩)) ∧ fieldAddrP Tryz.abEnv 118 (.pointer (some ⟨b, o, s⟩)) 1 = some (.pointer (some ⟨b, o + 1, none⟩)) ∧ fieldAddrP Tryz.abEnv 118 (.pointer (some ⟨b, o, s⟩)) 2 = some (.pointer (some ⟨b, o + 2, none⟩)) ∧ fieldAddrP Tryz.abEnv 118 (.pointer (some ⟨b, o, s⟩)) 3 = some (.pointer (some ⟨b, o + 3, none⟩)) := ⟨rfl, rfl, rfl, rfl⟩
theorem Tryz.d118 (x0 x1 x2 x3 : Value) : fieldP Tryz.abEnv 118 (.agg ⟨[x0, x1, x2, x3]⟩) 0 = some x0 ∧ fieldP Tryz.abEnv 118 (.agg ⟨[x0, x1, x2, x3]⟩) 1 = some x1 ∧ fieldP Tryz.abEnv 118 (.agg ⟨[x0, x1, x2, x3]⟩) 2 = some x2 ∧ fieldP Tryz.abEnv 118 (.agg ⟨[x0, x1, x2, x3]⟩) 3 = some x3 := ⟨rfl, rfl, rfl, rfl⟩
theorem Tryz.u120 : Tryz.abEnv.und 120 = some (.pointer 118) := by kernel_rfl
theorem Tryz.a120 : Tryz.abEnv.agg 120 = some false := by kernel_rfl
theorem Tryz.s120 : Tryz.abEnv.sz 120 = some 1 := by kernel_rfl
theorem Tryz.z120 : Tryz.abEnv.zero 120 = some [.pointer none] := by kernel_rfl
theorem Tryz.q120 : isPtr Tryz.abEnv 120 = true := by kernel_rfl
theorem Tryz.i120 : isStr Tryz.abEnv 120 = true := by kernel_rfl
theorem Tryz.n120 : intTy Tryz.abEnv 120 = some false := by kernel_rfl
theorem Tryz.a122 : Tryz.abEnv.agg 122 = some true := by kernel_rfl
theorem Tryz.s122 : Tryz.abEnv.sz 122 = some 1 := by kernel_rfl
theorem Tryz.z122 : Tryz.abEnv.zero 122 = some [.pointer none] := by kernel_rfl
theorem Tryz.i122 : isStr Tryz.abEnv 122 = true := by kernel_rfl
theorem Tryz.n122 : intTy Tryz.abEnv 122 = some false := by kernel_rfl
theorem Tryz.p122 : placesOf Tryz.abEnv 122 = some [(0, 1)] := by kernel_rfl
theorem Tryz.ff122 (b o : Nat) (s : Option Nat) : fieldAddrP Tryz.abEnv 122 (.pointer (some ⟨b, o, s⟩)) 0 = some (.pointer (some ⟨b, o + 0, none⟩)) := rfl
theorem Tryz.d122 (x0 : Value) : fieldP Tryz.abEnv 122 (.agg ⟨[x0]⟩) 0 = some x0 := rfl
theorem Tryz.e31 : Tryz.abEnv.fn 31 = some Tryz.f31 := by kernel_rfl
theorem Tryz.u123 : Tryz.abEnv.und 123 = some (.map 3 3) := by kernel_rfl
theorem Tryz.a123 : Tryz.abEnv.agg 123 = some false := by kernel_rfl
theorem Tryz.s123 : Tryz.abEnv.sz 123 = some 1 := by kernel_rfl
theorem Tryz.z123 : Tryz.abEnv.zero 123 = some [.map none] := by kernel_rfl
theorem Tryz.n123 : intTy Tryz.abEnv 123 = some false := by kernel_rfl
theorem Tryz.a124 : Tryz.abEnv.agg 124 = some false := by kernel_rfl
theorem Tryz.s124 : Tryz.abEnv.sz 124 = some 1 := by kernel_rfl
theorem Tryz.z124 : Tryz.abEnv.zero 124 = some [.nilFunc] := by kernel_rfl
theorem Tryz.n124 : intTy Tryz.abEnv 124 = some false := by kernel_rfl
theorem Tryz.e32 : Tryz.abEnv.fn 32 = some Tryz.f32 := by kernel_rfl
theorem Tryz.e33 : Tryz.abEnv.fn 33 = some Tryz.f33 := by kernel_rfl
theorem Tryz.e34 : Tryz.abEnv.fn 34 = some Tryz.f34 := by kernel_rfl
theorem Tryz.e35 : Tryz.abEnv.fn 35 = some Tryz.f35 := by kernel_rfl
theorem Tryz.e36 : Tryz.abEnv.fn 36 = some Tryz.f36 := by kernel_rfl
theorem Tryz.e37 : Tryz.abEnv.fn 37 = some Tryz.f37 := by kernel_rfl
theorem Tryz.e38 : Tryz.abEnv.fn 38 = some Tryz.f38 := by kernel_rfl
theorem Tryz.e39 : Tryz.abEnv.fn 39 = some Tryz.f39 := by kernel_rfl
theorem Tryz.e40 : Tryz.abEnv.fn 40 = some Tryz.f40 := by kernel_rfl
theorem Tryz.e41 : Tryz.abEnv.fn 41 = some Tryz.f41 := by kernel_rfl
theorem Tryz.e42 : Tryz.abEnv.fn 42 = some Tryz.f42 := by kernel_rfl
theorem Tryz.e43 : Tryz.abEnv.fn 43 = some Tryz.f43 := by kernel_rfl
theorem Tryz.e44 : Tryz.abEnv.fn 44 = some Tryz.f44 := by kernel_rfl
theorem Tryz.e45 : Tryz.abEnv.fn 45 = some Tryz.f45 := by kernel_rfl
theorem Tryz.e46 : Tryz.abEnv.fn 46 = some Tryz.f46 := by kernel_rfl
theorem Tryz.e47 : Tryz.abEnv.fn 47 = some Tryz.f47 := by kernel_rfl
theorem Tryz.a101 : Tryz.abEnv.agg 101 = some false := by kernel_rfl
theorem Tryz.s101 : Tryz.abEnv.sz 101 = some 1 := by kernel_rfl
theorem Tryz.z101 : Tryz.abEnv.zero 101 = some [.nilFunc] := by kernel_rfl
theorem Tryz.n101 : intTy Tryz.abEnv 101 = some false := by kernel_rfl
theorem Tryz.a102 : Tryz.abEnv.agg 102 = some false := by kernel_rfl
theorem Tryz.s102 : Tryz.abEnv.sz 102 = some 1 := by kernel_rfl
theorem Tryz.z102 : Tryz.abEnv.zero 102 = some [.nilFunc] := by kernel_rfl
theorem Tryz.n102 : intTy Tryz.abEnv 102 = some false := by kernel_rfl
theorem Tryz.u130 : Tryz.abEnv.und 130 = some (.pointer 136) := by kernel_rfl
theorem Tryz.a130 : Tryz.abEnv.agg 130 = some false := by kernel_rfl
theorem Tryz.s130 : Tryz.abEnv.sz 130 = some 1 := by kernel_rfl
theorem Tryz.z130 : Tryz.abEnv.zero 130 = some [.pointer none] := by kernel_rfl
theorem Tryz.q130 : isPtr Tryz.abEnv 130 = true := by kernel_rfl
theorem Tryz.i130 : isStr Tryz.abEnv 130 = true := by kernel_rfl
theorem Tryz.n130 : intTy Tryz.abEnv 130 = some false := by kernel_rfl
theorem Tryz.u131 : Tryz.abEnv.und 131 = some (.pointer 168) := by kernel_rfl
theorem Tryz.a131 : Tryz.abEnv.agg 131 = some false := by kernel_rfl
theorem Tryz.s131 : Tryz.abEnv.sz 131 = some 1 := by kernel_rfl
theorem Tryz.z131 : Tryz.abEnv.zero 131 = some [.pointer none] := by kernel_rfl
theorem Tryz.q131 : isPtr Tryz.abEnv 131 = true := by kernel_rfl
theorem Tryz.i131 : isStr Tryz.abEnv 131 = true := by kernel_rfl
theorem Tryz.n131 : intTy Tryz.abEnv 131 = some false := by kernel_rfl
theorem Tryz.a136 : Tryz.abEnv.agg 136 = some true := by kernel_rfl
theorem Tryz.s136 : Tryz.abEnv.sz 136 = some 5 := by kernel_rfl
theorem Tryz.z136 : Tryz.abEnv.zero 136 = some [.pointer none, .slice none 0 0, .slice none 0 0, .slice none 0 0, .map none] := by kernel_rfl
theorem Tryz.i136 : isStr Tryz.abEnv 136 = true := by kernel_rfl
theorem Tryz.n136 : intTy Tryz.abEnv 136 = some false := by kernel_rfl
theorem Tryz.p136 : placesOf Tryz.abEnv 136 = some [(0, 1), (1, 3), (4, 1)] := by kernel_rfl
theorem Tryz.ff136 (b o : Nat) (s : Option Nat) : fieldAddrP Tryz.abEnv 136 (.pointer (some ⟨b, o, s⟩)) 0 = some (.pointer (some ⟨b, o + 0, none⟩)) ∧ fieldAddrP Tryz.abEnv 136 (.pointer (some ⟨b, o, s⟩)) 1 = some (.pointer (some ⟨b, o + 1, none⟩)) ∧ fieldAddrP Tryz.abEnv 136 (.pointer (some ⟨b, o, s⟩)) 2 = some (.pointer (some ⟨b, o + 4, none⟩)) := ⟨rfl, rfl, rfl⟩
theorem Tryz.d136 (x0 x1 x2 x3 x4 : Value) : fieldP Tryz.abEnv 136 (.agg ⟨[x0, x1, x2, x3, x4]⟩) 0 = some x0 ∧ fieldP Tryz.abEnv 136 (.agg ⟨[x0, x1, x2, x3, x4]⟩) 1 = some (.agg ⟨[x1, x2, x3]⟩) ∧ fieldP Tryz.abEnv 136 (.agg ⟨[x0, x1, x2, x3, x4]⟩) 2 = some x4 := ⟨rfl, rfl, rfl⟩
theorem Tryz.a141 : Tryz.abEnv.agg 141 = some false := by kernel_rfl
theorem Tryz.s141 : Tryz.abEnv.sz 141 = some 1 := by kernel_rfl
theorem Tryz.z141 : Tryz.abEnv.zero 141 = some [.nilFunc] := by kernel_rfl
theorem Tryz.n141 : intTy Tryz.abEnv 141 = some false := by kernel_rfl
theorem Tryz.a166 : Tryz.abEnv.agg 166 = some true := by kernel_rfl
theorem Tryz.s166 : Tryz.abEnv.sz 166 = some 2 := by kernel_rfl
theorem Tryz.z166 : Tryz.abEnv.zero 166 = some [.slice none 0 0, .map none] := by kernel_rfl
theorem Tryz.i166 : isStr Tryz.abEnv 166 = true := by kernel_rfl
theorem Tryz.n166 : intTy Tryz.abEnv 166 = some false := by kernel_rfl
theorem Tryz.p166 : placesOf Tryz.abEnv 166 = some [(0, 1), (1, 1)] := by kernel_rfl
theorem Tryz.ff166 (b o : Nat) (s : Option Nat) : fieldAddrP Tryz.abEnv 166 (.pointer (some ⟨b, o, s⟩)) 0 = some (.pointer (some ⟨b, o + 0, none⟩)) ∧ fieldAddrP Tryz.abEnv 166 (.pointer (some ⟨b, o, s⟩)) 1 = some (.pointer (some ⟨b, o + 1, none⟩)) := ⟨rfl, rfl⟩
theorem Tryz.d166 (x0 x1 : Value) : fieldP Tryz.abEnv 166 (.agg ⟨[x0, x1]⟩) 0 = some x0 ∧ fieldP Tryz.abEnv 166 (.agg ⟨[x0, x1]⟩) 1 = some x1 := ⟨rfl, rfl⟩
theorem Tryz.a168 : Tryz.abEnv.agg 168 = some true := by kernel_rfl
theorem Tryz.s168 : Tryz.abEnv.sz 168 = some 3 := by kernel_rfl
theorem Tryz.z168 : Tryz.abEnv.zero 168 = some [.slice none 0 0, .map none, .int .i64 0] := by kernel_rfl
theorem Tryz.i168 : isStr Tryz.abEnv 168 = true := by kernel_rfl
theorem Tryz.n168 : intTy Tryz.abEnv 168 = some false := by kernel_rfl
theorem Tryz.p168 : placesOf Tryz.abEnv 168 = some [(0, 2), (2, 1)] := by kernel_rfl
theorem Tryz.ff168 (b o : Nat) (s : Option Nat) : fieldAddrP Tryz.abEnv 168 (.pointer (some ⟨b, o, s⟩)) 0 = some (.pointer (some ⟨b, o + 0, none⟩)) ∧ fieldAddrP Tryz.abEnv 168 (.pointer (some ⟨b, o, s⟩)) 1 = some (.pointer (some ⟨b, o + 2, none⟩)) := ⟨rfl, rfl⟩
theorem Tryz.d168 (x0 x1 x2 : Value) : fieldP Tryz.abEnv 168 (.agg ⟨[x0, x1, x2]⟩) 0 = some (.agg ⟨[x0, x1]⟩) ∧ fieldP Tryz.abEnv 168 (.agg ⟨[x0, x1, x2]⟩) 1 = some x2 := ⟨rfl, rfl⟩
theorem Tryz.e48 : Tryz.abEnv.fn 48 = some Tryz.f48 := by kernel_rfl
theorem Tryz.e49 : Tryz.abEnv.fn 49 = some Tryz.f49 := by kernel_rfl
theorem Tryz.e50 : Tryz.abEnv.fn 50 = some Tryz.f50 := by kernel_rfl
theorem Tryz.e51 : Tryz.abEnv.fn 51 = some Tryz.f51 := by kernel_rfl
theorem Tryz.e52 : Tryz.abEnv.fn 52 = some Tryz.f52 := by kernel_rfl
theorem Tryz.e55 : Tryz.abEnv.fn 55 = some Tryz.f55 := by kernel_rfl
theorem Tryz.e66 : Tryz.abEnv.fn 66 = some Tryz.f66 := by kernel_rfl
theorem Tryz.e71 : Tryz.abEnv.fn 71 = some Tryz.f71 := by kernel_rfl
theorem Tryz.e72 : Tryz.abEnv.fn 72 = some Tryz.f72 := by kernel_rfl
theorem Tryz.e73 : Tryz.abEnv.fn 73 = some Tryz.f73 := by kernel_rfl
theorem Tryz.a161 : Tryz.abEnv.agg 161 = some false := by kernel_rfl
theorem Tryz.s161 : Tryz.abEnv.sz 161 = some 1 := by kernel_rfl
theorem Tryz.z161 : Tryz.abEnv.zero 161 = some [.nilFunc] := by kernel_rfl
theorem Tryz.n161 : intTy Tryz.abEnv 161 = some false := by kernel_rfl
theorem Tryz.e75 : Tryz.abEnv.fn 75 = some Tryz.f75 := by kernel_rfl
theorem Tryz.e76 : Tryz.abEnv.fn 76 = some Tryz.f76 := by kernel_rfl
theorem Tryz.e77 : Tryz.abEnv.fn 77 = some Tryz.f77 := by kernel_rfl
theorem Tryz.e78 : Tryz.abEnv.fn 78 = some Tryz.f78 := by kernel_rfl
theorem Tryz.e79 : Tryz.abEnv.fn 79 = some Tryz.f79 := by kernel_rfl
theorem Tryz.e80 : Tryz.abEnv.fn 80 = some Tryz.f80 := by kernel_rfl
theorem Tryz.e81 : Tryz.abEnv.fn 81 = some Tryz.f81 := by kernel_rfl
theorem Tryz.u164 : Tryz.abEnv.und 164 = some (.slice 174) := by kernel_rfl
theorem Tryz.a164 : Tryz.abEnv.agg 164 = some false := by kernel_rfl
theorem Tryz.s164 : Tryz.abEnv.sz 164 = some 1 := by kernel_rfl
theorem Tryz.z164 : Tryz.abEnv.zero 164 = some [.slice none 0 0] := by kernel_rfl
theorem Tryz.q164 : isSl Tryz.abEnv 164 = true := by kernel_rfl
theorem Tryz.n164 : intTy Tryz.abEnv 164 = some false := by kernel_rfl
theorem Tryz.a174 : Tryz.abEnv.agg 174 = some true := by kernel_rfl
theorem Tryz.s174 : Tryz.abEnv.sz 174 = some 2 := by kernel_rfl
theorem Tryz.z174 : Tryz.abEnv.zero 174 = some [.int .i64 0, .int .i64 0] := by kernel_rfl
theorem Tryz.i174 : isStr Tryz.abEnv 174 = true := by kernel_rfl
theorem Tryz.n174 : intTy Tryz.abEnv 174 = some false := by kernel_rfl
theorem Tryz.p174 : placesOf Tryz.abEnv 174 = some [(0, 1), (1, 1)] := by kernel_rfl
theorem Tryz.ff174 (b o : Nat) (s : Option Nat) : fieldAddrP Tryz.abEnv 174 (.pointer (some ⟨b, o, s⟩)) 0 = some (.pointer (some ⟨b, o + 0, none⟩)) ∧ fieldAddrP Tryz.abEnv 174 (.pointer (some ⟨b, o, s⟩)) 1 = some (.pointer (some ⟨b, o + 1, none⟩)) := ⟨rfl, rfl⟩
theorem Tryz.d174 (x0 x1 : Value) : fieldP Tryz.abEnv 174 (.agg ⟨[x0, x1]⟩) 0 = some x0 ∧ fieldP Tryz.abEnv 174 (.agg ⟨[x0, x1]⟩) 1 = some x1 := ⟨rfl, rfl⟩
theorem Tryz.e174E : ElemIs Tryz.abEnv 174 16 2 [.int .i64 0, .int .i64 0] := ⟨⟨_, rfl, by kernel_rfl, by kernel_rfl⟩, Tryz.z174, rfl⟩
theorem Tryz.e82 : Tryz.abEnv.fn 82 = some Tryz.f82 := by kernel_rfl
theorem Tryz.u169 : Tryz.abEnv.und 169 = some (.int .u64) := by kernel_rfl
theorem Tryz.a169 : Tryz.abEnv.agg 169 = some false := by kernel_rfl
theorem Tryz.s169 : Tryz.abEnv.sz 169 = some 1 := by kernel_rfl
theorem Tryz.z169 : Tryz.abEnv.zero 169 = some [.int .u64 0] := by kernel_rfl
theorem Tryz.i169 : isStr Tryz.abEnv 169 = true := by kernel_rfl
theorem Tryz.e83 : Tryz.abEnv.fn 83 = some Tryz.f83 := by kernel_rfl
theorem Tryz.e84 : Tryz.abEnv.fn 84 = some Tryz.f84 := by kernel_rfl
theorem Tryz.e85 : Tryz.abEnv.fn 85 = some Tryz.f85 := by kernel_rfl
theorem Tryz.e86 : Tryz.abEnv.fn 86 = some Tryz.f86 := by kernel_rfl
theorem Tryz.e87 : Tryz.abEnv.fn 87 = some Tryz.f87 := by kernel_rfl
theorem Tryz.e88 : Tryz.abEnv.fn 88 = some Tryz.f88 := by kernel_rfl
theorem Tryz.e89 : Tryz.abEnv.fn 89 = some Tryz.f89 := by kernel_rfl
theorem Tryz.e91 : Tryz.abEnv.fn 91 = some Tryz.f91 := by kernel_rfl
theorem Tryz.e97 : Tryz.abEnv.fn 97 = some Tryz.f97 := by kernel_rfl
theorem Tryz.a155 : Tryz.abEnv.agg 155 = some true := by kernel_rfl
theorem Tryz.s155 : Tryz.abEnv.sz 155 = some 1 := by kernel_rfl
theorem Tryz.z155 : Tryz.abEnv.zero 155 = some [.pointer none] := by kernel_rfl
theorem Tryz.i155 : isStr Tryz.abEnv 155 = true := by kernel_rfl
theorem Tryz.n155 : intTy Tryz.abEnv 155 = some false := by kernel_rfl
theorem Tryz.p155 : placesOf Tryz.abEnv 155 = some [(0, 1)] := by kernel_rfl
theorem Tryz.ff155 (b o : Nat) (s : Option Nat) : fieldAddrP Tryz.abEnv 155 (.pointer (some ⟨b, o, s⟩)) 0 = some (.pointer (some ⟨b, o + 0, none⟩)) := rfl
theorem Tryz.d155 (x0 : Value) : fieldP Tryz.abEnv 155 (.agg ⟨[x0]⟩) 0 = some x0 := rfl
theorem Tryz.e99 : Tryz.abEnv.fn 99 = some Tryz.f99 := by kernel_rfl
theorem Tryz.a184 : Tryz.abEnv.agg 184 = some false := by kernel_rfl
theorem Tryz.s184 : Tryz.abEnv.sz 184 = some 1 := by kernel_rfl
theorem Tryz.z184 : Tryz.abEnv.zero 184 = some [.nilFunc] := by kernel_rfl
theorem Tryz.n184 : intTy Tryz.abEnv 184 = some false := by kernel_rfl
theorem Tryz.a186 : Tryz.abEnv.agg 186 = some false := by kernel_rfl
theorem Tryz.s186 : Tryz.abEnv.sz 186 = some 1 := by kernel_rfl
theorem Tryz.z186 : Tryz.abEnv.zero 186 = some [.nilFunc] := by kernel_rfl
theorem Tryz.n186 : intTy Tryz.abEnv 186 = some false := by kernel_rfl
theorem Tryz.e186E : ElemIs Tryz.abEnv 186 8 1 [.nilFunc] := ⟨⟨_, rfl, by kernel_rfl, by kernel_rfl⟩, Tryz.z186, rfl⟩
theorem Tryz.u188 : Tryz.abEnv.und 188 = some (.slice 186) := by kernel_rfl
theorem Tryz.a188 : Tryz.abEnv.agg 188 = some false := by kernel_rfl
theorem Tryz.s188 : Tryz.abEnv.sz 188 = some 1 := by kernel_rfl
theorem Tryz.z188 : Tryz.abEnv.zero 188 = some [.slice none 0 0] := by kernel_rfl
theorem Tryz.q188 : isSl Tryz.abEnv 188 = true := by kernel_rfl
theorem Tryz.n188 : intTy Tryz.abEnv 188 = some false := by kernel_rfl
theorem Tryz.a190 : Tryz.abEnv.agg 190 = some true := by kernel_rfl
theorem Tryz.s190 : Tryz.abEnv.sz 190 = some 6 := by kernel_rfl
theorem Tryz.z190 : Tryz.abEnv.zero 190 = some [.int .i64 0, .int .i64 0, .int .i64 0, .int .i64 0, .int .i64 0, .int .i64 0] := by kernel_rfl
theorem Tryz.i190 : isStr Tryz.abEnv 190 = true := by kernel_rfl
theorem Tryz.n190 : intTy Tryz.abEnv 190 = some false := by kernel_rfl
theorem Tryz.p190 : placesOf Tryz.abEnv 190 = some [(0, 1), (1, 1), (2, 1), (3, 1), (4, 1), (5, 1)] := by kernel_rfl
theorem Tryz.ff190 (b o : Nat) (s : Option Nat) : fieldAddrP Tryz.abEnv 190 (.pointer (some ⟨b, o, s⟩)) 0 = some (.pointer (some ⟨b, o + 0, none⟩)) ∧ fieldAddrP Tryz.abEnv 190 (.pointer (some ⟨b, o, s⟩)) 1 = some (.pointer (some ⟨b, o + 1, none⟩)) ∧ fieldAddrP Tryz.abEnv 190 (.pointer (some ⟨b, o, s⟩)) 2 = some (.pointer (some ⟨b, o + 2, none⟩)) ∧ fieldAddrP Tryz.abEnv 190 (.pointer (some ⟨b, o, s⟩)) 3 = some (.pointer (some ⟨b, o + 3, none⟩)) ∧ fieldAddrP Tryz.abEnv 190 (.pointer (some ⟨b, o, s⟩)) 4 = some (.pointer (some ⟨b, o + 4, none⟩)) ∧ fieldAddrP Tryz.abEnv 190 (.pointer (some ⟨b, o, s⟩)) 5 = some (.pointer (some ⟨b, o + 5, none⟩)) := ⟨rfl, rfl, rfl, rfl, rfl, rfl⟩
theorem Tryz.d190 (x0 x1 x2 x3 x4 x5 : Value) : fieldP Tryz.abEnv 190 (.agg ⟨[x0, x1, x2, x3, x4, x5]⟩) 0 = some x0 ∧ fieldP Tryz.abEnv 190 (.agg ⟨[x0, x1, x2, x3, x4, x5]⟩) 1 = some x1 ∧ fieldP Tryz.abEnv 190 (.agg ⟨[x0, x1, x2, x3, x4, x5]⟩) 2 = some x2 ∧ fieldP Tryz.abEnv 190 (.agg ⟨[x0, x1, x2, x3, x4, x5]⟩) 3 = some x3 ∧ fieldP Tryz.abEnv 190 (.agg ⟨[x0, x1, x2, x3, x4, x5]⟩) 4 = some x4 ∧ fieldP Tryz.abEnv 190 (.agg ⟨[x0, x1, x2, x3, x4, x5]⟩) 5 = some x5 := ⟨rfl, rfl, rfl, rfl, rfl, rfl⟩
theorem Tryz.e190E : ElemIs Tryz.abEnv 190 48 6 [.int .i64 0, .int .i64 0, .int .i64 0, .int .i64 0, .int .i64 0, .int .i64 0] := ⟨⟨_, rfl, by kernel_rfl, by kernel_rfl⟩, Tryz.z190, rfl⟩
theorem Tryz.e100 : Tryz.abEnv.fn 100 = some Tryz.f100 := by kernel_rfl
theorem Tryz.e102 : Tryz.abEnv.fn 102 = some Tryz.f102 := by kernel_rfl
theorem Tryz.e103 : Tryz.abEnv.fn 103 = some Tryz.f103 := by kernel_rfl
theorem Tryz.e104 : Tryz.abEnv.fn 104 = some Tryz.f104 := by kernel_rfl
theorem Tryz.e105 : Tryz.abEnv.fn 105 = some Tryz.f105 := by kernel_rfl
theorem Tryz.e106 : Tryz.abEnv.fn 106 = some Tryz.f106 := by kernel_rfl
theorem Tryz.e107 : Tryz.abEnv.fn 107 = some Tryz.f107 := by kernel_rfl
theorem Tryz.u209 : Tryz.abEnv.und 209 = some (.pointer 166) := by kernel_rfl
theorem Tryz.a209 : Tryz.abEnv.agg 209 = some false := by kernel_rfl
theorem Tryz.s209 : Tryz.abEnv.sz 209 = some 1 := by kernel_rfl
theorem Tryz.z209 : Tryz.abEnv.zero 209 = some [.pointer none] := by kernel_rfl
theorem Tryz.q209 : isPtr Tryz.abEnv 209 = true := by kernel_rfl
theorem Tryz.i209 : isStr Tryz.abEnv 209 = true := by kernel_rfl
theorem Tryz.n209 : intTy Tryz.abEnv 209 = some false := by kernel_rfl
theorem Tryz.e108 : Tryz.abEnv.fn 108 = some Tryz.f108 := by kernel_rfl
theorem Tryz.e109 : Tryz.abEnv.fn 109 = some Tryz.f109 := by kernel_rfl
theorem Tryz.e110 : Tryz.abEnv.fn 110 = some Tryz.f110 := by kernel_rfl
theorem Tryz.a210 : Tryz.abEnv.agg 210 = some false := by kernel_rfl
theorem Tryz.s210 : Tryz.abEnv.sz 210 = some 1 := by kernel_rfl
theorem Tryz.z210 : Tryz.abEnv.zero 210 = some [.nilFunc] := by kernel_rfl
theorem Tryz.n210 : intTy Tryz.abEnv 210 = some false := by kernel_rfl
theorem Tryz.a212 : Tryz.abEnv.agg 212 = some false := by kernel_rfl
theorem Tryz.s212 : Tryz.abEnv.sz 212 = some 1 := by kernel_rfl
theorem Tryz.z212 : Tryz.abEnv.zero 212 = some [.nilFunc] := by kernel_rfl
theorem Tryz.n212 : intTy Tryz.abEnv 212 = some false := by kernel_rfl
theorem Tryz.e111 : Tryz.abEnv.fn 111 = some Tryz.f111 := by kernel_rfl
theorem Tryz.a177 : Tryz.abEnv.agg 177 = some false := by kernel_rfl
theorem Tryz.s177 : Tryz.abEnv.sz 177 = some 1 := by kernel_rfl
theorem Tryz.z177 : Tryz.abEnv.zero 177 = some [.nilFunc] := by kernel_rfl
theorem Tryz.n177 : intTy Tryz.abEnv 177 = some false := by kernel_rfl
theorem Tryz.e112 : Tryz.abEnv.fn 112 = some Tryz.f112 := by kernel_rfl
theorem Tryz.e113 : Tryz.abEnv.fn 113 = some Tryz.f113 := by kernel_rfl
theorem Tryz.e114 : Tryz.abEnv.fn 114 = some Tryz.f114 := by kernel_rfl
theorem Tryz.e115 : Tryz.abEnv.fn 115 = some Tryz.f115 := by kernel_rfl
theorem Tryz.e119 : Tryz.abEnv.fn 119 = some Tryz.f119 := by kernel_rfl
theorem Tryz.u218 : Tryz.abEnv.und 218 = some (.slice 190) := by kernel_rfl
theorem Tryz.a218 : Tryz.abEnv.agg 218 = some false := by kernel_rfl
theorem Tryz.s218 : Tryz.abEnv.sz 218 = some 1 := by kernel_rfl
theorem Tryz.z218 : Tryz.abEnv.zero 218 = some [.slice none 0 0] := by kernel_rfl
theorem Tryz.q218 : isSl Tryz.abEnv 218 = true := by kernel_rfl
theorem Tryz.n218 : intTy Tryz.abEnv 218 = some false := by kernel_rfl
theorem Tryz.e120 : Tryz.abEnv.fn 120 = some Tryz.f120 := by kernel_rfl
theorem Tryz.e121 : Tryz.abEnv.fn 121 = some Tryz.f121 := by kernel_rfl
theorem Tryz.e122 : Tryz.abEnv.fn 122 = some Tryz.f122 := by kernel_rfl
theorem Tryz.e123 : Tryz.abEnv.fn 123 = some Tryz.f123 := by kernel_rfl
theorem Tryz.e124 : Tryz.abEnv.fn 124 = some Tryz.f124 := by kernel_rfl
theorem Tryz.e125 : Tryz.abEnv.fn 125 = some Tryz.f125 := by kernel_rfl
theorem Tryz.e126 : Tryz.abEnv.fn 126 = some Tryz.f126 := by kernel_rfl
theorem Tryz.e127 : Tryz.abEnv.fn 127 = some Tryz.f127 := by kernel_rfl
theorem Tryz.e133 : Tryz.abEnv.fn 133 = some Tryz.f133 := by kernel_rfl
theorem Tryz.e134 : Tryz.abEnv.fn 134 = some Tryz.f134 := by kernel_rfl
theorem Tryz.e135 : Tryz.abEnv.fn 135 = some Tryz.f135 := by kernel_rfl
theorem Tryz.e136 : Tryz.abEnv.fn 136 = some Tryz.f136 := by kernel_rfl
theorem Tryz.e139 : Tryz.abEnv.fn 139 = some Tryz.f139 := by kernel_rfl
theorem Tryz.a219 : Tryz.abEnv.agg 219 = some false := by kernel_rfl
theorem Tryz.s219 : Tryz.abEnv.sz 219 = some 1 := by kernel_rfl
theorem Tryz.z219 : Tryz.abEnv.zero 219 = some [.nilFunc] := by kernel_rfl
theorem Tryz.n219 : intTy Tryz.abEnv 219 = some false := by kernel_rfl
theorem Tryz.e140 : Tryz.abEnv.fn 140 = some Tryz.f140 := by kernel_rfl
theorem Tryz.e141 : Tryz.abEnv.fn 141 = some Tryz.f141 := by kernel_rfl
theorem Tryz.e145 : Tryz.abEnv.fn 145 = some Tryz.f145 := by kernel_rfl
theorem Tryz.e146 : Tryz.abEnv.fn 146 = some Tryz.f146 := by kernel_rfl
theorem Tryz.e147 : Tryz.abEnv.fn 147 = some Tryz.f147 := by kernel_rfl
theorem Tryz.e149 : Tryz.abEnv.fn 149 = some Tryz.f149 := by kernel_rfl
theorem Tryz.e150 : Tryz.abEnv.fn 150 = some Tryz.f150 := by kernel_rfl
end Go.Ab

end
section
namespace Go.Ab
open Go.Proofs
set_option maxRecDepth 10000
open Tryz in
def Tryz.FFt1149 := aj a1 <| aj s1 <| aj z1 <| aj n1 <| aj u2 <| aj a2 <| aj s2 <| aj z2 <| aj i2 <| aj u3 <| aj a3 <| aj s3 <| aj z3 <| aj i3 <| aj u4 <| aj a4 <| aj s4 <| aj z4 <| aj n4 <| aj u116 <| aj a116 <| aj s116 <| aj z116 <| aj i116 <| aj a190 <| aj s190 <| aj z190 <| aj i190 <| aj n190 <| aj p190 <| aj ff190 <| aj d190 <| aj u218 <| aj a218 <| aj s218 <| aj z218 <| aj q218 <| aj n218 <| aj a219 <| aj s219 <| aj z219 <| n219
theorem values {h0 : Hp} (ok : h0.t.Sized h0.n) {v : Value} (hv : Fl v) : Ret Tryz.abEnv 139 [v] h0 fun r h' => Gr h0 h' ∧ ∃ b, r = .func (.func 149) #[] #[ptrTo b] ∧ h0.n ≤ b ∧ h'.load b 0 1 = some [v] := by
  have S := St.init (M := NoM) ok
  refine enter_ret (n := 4) (rs := [.tmp 2]) rfl Tryz.e139 rfl rfl rfl (lbt rfl) ?_
  simp only [BS, Nat.reduceLT]
  refine step_newS (box_fl (by first | exact fl_int | exact fl_slice | exact fl_ptr | exact fl_bool | exact fl_map | exact fl_func | exact fl_nili | exact fl_iface | exact fl_nilf | exact fl_str | assumption)) S ?_; clear S; intro h b S n_b
  simp only [BS, LB, tupleOf, Nat.reduceLT, Nat.reduceEqDiff]
  exact ⟨S.gr, b, rfl, n_b, S.ld m0 rfl⟩
theorem values_iter {h0 : Hp} (ok0 : h0.t.Sized h0.n) {v : Value} {b : Nat} {ps : List Pl} (hb : h0.load b 0 1 = some [v]) (hs : SlAt h0 6 encP v ps) (hlen : ps.length < 1000) :
    Iter Tryz.abEnv 149 [] [ptrTo b] h0 (fun c => c = b ∨ blkOf v c) (ps.map fun p => [.agg ⟨encP p⟩]) := by
  refine iter_mk fun lb J Z Y h F s hj => ?_
  refine enter (n := 16) (rs := []) rfl Tryz.e149 rfl rfl rfl (lbt rfl) ?_
  have hb' := s.load ok0 hb (.inl rfl)
  have hs' := s.sl ok0 hs (fun b h => .inr h)
  simp only [BS, LB, Nat.reduceLT, Tryz.FFt1149, hb', hs'.lenq]
  refine loop_ind (fun (i : Nat) ρ h => i ≤ ps.length ∧ ∃ F, ItS h0 (fun c => c = b ∨ blkOf v c) h F ∧ J i h F ∧ ρ 0 = .func (.yield lb) #[] #[] ∧ ρ 5 = v ∧ ρ 6 = .int .i64 ps.length ∧ ρ 7 = .int .i64 i) (fun i => ps.length - i) ?_ 0 _ _ ?_
  · intro i ih ρ h ⟨hi, F, s, hj, r0, r5, r6, r7⟩
    by_cases hlt : i < ps.length
    · have hs' := s.sl ok0 hs (fun b h => .inr h)
      obtain ⟨c, o, hidx, hld⟩ := hs'.ix (kd := .i64) encP_len hlt
      have S := St.init (M := NoM) s.ok
      have w : wrapI .i64 ((i : Int) + 1) = ((i + 1 : Nat) : Int) := by rw [wrap64] <;> omega
      simp only [BS, LB, Nat.reduceLT, Nat.reduceEqDiff, Tryz.FFt1149, r5, r6, r7, lt_nat, hlt, hidx, hld]
      refine step_newS allocR_new S ?_; clear S; intro h bb S n_bb
      simp only [BS, LB, Nat.reduceLT, Nat.reduceEqDiff, encP]
      first | refine step_u (S.store (i := 0) rfl ?s ?c rfl rfl ?l ono) ?_ | refine step_u (S.store (i := 1) rfl ?s ?c rfl rfl ?l ono) ?_ | refine step_u (S.store (i := 2) rfl ?s ?c rfl rfl ?l ono) ?_ | refine step_u (S.store (i := 3) rfl ?s ?c rfl rfl ?l ono) ?_ | refine step_u (S.store (i := 4) rfl ?s ?c rfl rfl ?l ono) ?_ | refine step_u (S.store (i := 5) rfl ?s ?c rfl rfl ?l ono) ?_ | refine step_u (S.store (i := 6) rfl ?s ?c rfl rfl ?l ono) ?_ | refine step_u (S.store (i := 7) rfl ?s ?c rfl rfl ?l ono) ?_
      case s => exact (by first | exact Tryz.s190)
      case c => exact (by intro x e; cases e)
      case l => exact lbt rfl
      clear S; rintro h ⟨S, mo⟩; clear mo; simp only [List.set_cons_zero, List.set_cons_succ, vcells, lay, List.take, List.drop, List.nil_append, List.cons_append, List.append_nil, List.length_cons, List.length_nil, Nat.reduceAdd, Nat.add_zero] at S
      simp only [BS, LB, Nat.reduceLT, Nat.reduceEqDiff, Tryz.FFt1149, r0, S.lds (b := bb) (o := 0) (n := 6) (by repeat constructor) (lbt rfl)]
      refine yield_step Y (s.gr S.gr) (Y.gr _ _ _ _ hj S.gr) (i := i) (by simp [hlt, encP]) ?_ ?_ ?_
      · intro h' F' a s' _ _
        simp only [BS, LB, Nat.reduceLT, Nat.reduceEqDiff, r7, w]
        exact ih (i + 1) _ _ (by omega) ⟨by omega, F', s', a, by simp [setR, r0], by simp [setR, r5], by simp [setR, r6], by simp [setR]⟩
      · intro h' a _
        simp only [BS, LB, Nat.reduceLT, Nat.reduceEqDiff]
        exact leave_q rfl ⟨rfl, .inr (.inl ⟨_, rfl, a⟩)⟩
      · intro v h' a
        simp only [BS]
        exact leave_pan (un_nil ⟨rfl, .inr (.inr ⟨_, rfl, a⟩)⟩)
    · simp only [BS, LB, Nat.reduceLT, r6, r7, lt_nat, hlt]
      have : i = ps.length := by omega
      subst this
      exact leave_genN (un_nil ⟨rfl, _, rfl, rfl, .inl ⟨_, F, rfl, by simpa using hj⟩⟩)
  · exact ⟨by omega, F, s, hj, by simp [setR, argR], by simp [setR], by simp [setR], by simp [setR]⟩
end Go.Ab

end
section
namespace Go.Ab
open Go.Proofs
set_option maxRecDepth 10000
open Tryz in
def Tryz.FFt2120 := aj a1 <| aj s1 <| aj z1 <| aj n1 <| aj u2 <| aj a2 <| aj s2 <| aj z2 <| aj i2 <| aj u3 <| aj a3 <| aj s3 <| aj z3 <| aj i3 <| aj u4 <| aj a4 <| aj s4 <| aj z4 <| aj n4 <| aj u5 <| aj a5 <| aj s5 <| aj z5 <| aj i5 <| aj u116 <| aj a116 <| aj s116 <| aj z116 <| aj i116 <| aj a184 <| aj s184 <| aj z184 <| aj n184 <| aj a190 <| aj s190 <| aj z190 <| aj i190 <| aj n190 <| aj p190 <| aj ff190 <| aj d190 <| aj u218 <| aj a218 <| aj s218 <| aj z218 <| aj q218 <| n218
open Tryz in
def Tryz.FFt2122 := aj a1 <| aj s1 <| aj z1 <| aj n1 <| aj u2 <| aj a2 <| aj s2 <| aj z2 <| aj i2 <| aj u3 <| aj a3 <| aj s3 <| aj z3 <| aj i3 <| aj u4 <| aj a4 <| aj s4 <| aj z4 <| aj n4 <| aj u5 <| aj a5 <| aj s5 <| aj z5 <| aj i5 <| aj u24 <| aj a24 <| aj s24 <| aj z24 <| aj q24 <| aj n24 <| aj u25 <| aj a25 <| aj s25 <| aj z25 <| aj q25 <| aj n25 <| aj a27 <| aj s27 <| aj z27 <| aj i27 <| aj n27 <| aj p27 <| aj ff27 <| aj d27 <| aj a51 <| aj s51 <| aj z51 <| aj i51 <| aj n51 <| aj p51 <| aj ff51 <| aj d51 <| aj u116 <| aj a116 <| aj s116 <| aj z116 <| aj i116 <| aj a184 <| aj s184 <| aj z184 <| aj n184 <| aj a190 <| aj s190 <| aj z190 <| aj i190 <| aj n190 <| aj p190 <| aj ff190 <| aj d190 <| aj u218 <| aj a218 <| aj s218 <| aj z218 <| aj q218 <| n218
open Tryz in
def Tryz.FFt2140 := aj a1 <| aj s1 <| aj z1 <| aj n1 <| aj u2 <| aj a2 <| aj s2 <| aj z2 <| aj i2 <| aj u3 <| aj a3 <| aj s3 <| aj z3 <| aj i3 <| aj u4 <| aj a4 <| aj s4 <| aj z4 <| aj n4 <| aj u5 <| aj a5 <| aj s5 <| aj z5 <| aj i5 <| aj u6 <| aj a6 <| aj s6 <| aj z6 <| aj i6 <| aj a7 <| aj s7 <| aj z7 <| aj i7 <| aj n7 <| aj p7 <| aj ff7 <| aj d7 <| aj a8 <| aj s8 <| aj z8 <| aj i8 <| aj n8 <| aj p8 <| aj ff8 <| aj d8 <| aj u24 <| aj a24 <| aj s24 <| aj z24 <| aj q24 <| aj n24 <| aj u25 <| aj a25 <| aj s25 <| aj z25 <| aj q25 <| aj n25 <| aj a27 <| aj s27 <| aj z27 <| aj i27 <| aj n27 <| aj p27 <| aj ff27 <| aj d27 <| aj a51 <| aj s51 <| aj z51 <| aj i51 <| aj n51 <| aj p51 <| aj ff51 <| aj d51 <| aj u116 <| aj a116 <| aj s116 <| aj z116 <| aj i116 <| aj a190 <| aj s190 <| aj z190 <| aj i190 <| aj n190 <| aj p190 <| aj ff190 <| aj d190 <| aj a219 <| aj s219 <| aj z219 <| n219
def TellR (n0 n1 : Nat) (v : Value) (h' : Hp) : Prop := ∃ gi a post, ∃ (ps : List Pl) (D : Nat → Prop), v = .func (.func gi) a post ∧ Iter Tryz.abEnv gi a.toList post.toList h' D (ps.map fun p => [.agg ⟨encP p⟩]) ∧ (∀ p ∈ ps, p.lo ≤ p.n ∧ p.n < p.hi) ∧ ∀ c, D c → c < n0 ∨ n1 ≤ c
theorem one_ok {h0 : Hp} (ok : h0.t.Sized h0.n) {c n lo hi : Int} (h1 : lo ≤ n) (h2 : n < hi) :
    Ret Tryz.abEnv 120 [.int .i64 c, .int .i64 n, .int .i64 lo, .int .i64 hi] h0 fun v h' => Gr h0 h' ∧ TellR 0 h0.n v h' := by
  have S := St.init (M := NoM) ok
  refine enter_ret (n := 16) (rs := [.tmp 8]) rfl Tryz.e120 rfl rfl rfl (lbt rfl) ?_
  simp only [BS, LB, Nat.reduceLT, Nat.reduceEqDiff, Nat.reduceAdd, Tryz.FFt2120]
  refine step_newS (bs_new (by first | exact Tryz.u218) (by first | exact Tryz.e190E) (by decide) (by first | rfl | exact fillE )) S ?_; clear S; intro h b S n_b; simp only [repL, setL, vcells, List.cons_append, List.nil_append, List.append_nil, List.set_cons_zero, List.set_cons_succ, Nat.reduceMul, Nat.reduceAdd, Nat.zero_mul, Nat.zero_add, Nat.mul_one, Nat.one_mul] at S
  simp only [BS, LB, Nat.reduceLT, Nat.reduceEqDiff]
  have q := S.fr.n
  refine step_ret (values S.ok fl_slice) ?_; intro v h ⟨g, b2, e, n2, l2⟩; replace S := S.call g; clear g
  subst e
  simp only [BS, LB, tupleOf, Nat.reduceLT, Nat.reduceEqDiff]
  have hs : SlAt h 6 encP (.slice (some ⟨b, 0, none⟩) 1 1) [⟨0, 0, c, n, lo, hi⟩] := .inr ⟨b, 0, none, 1, rfl, Nat.le_refl _, S.lds (b := b) (o := 0) (n := 1 * 6) m0 (lbt rfl)⟩
  exact ⟨S.gr, _, #[], #[ptrTo b2], _, _, rfl, values_iter S.ok l2 hs (by simp), by intro p hp; simp at hp; subst hp; exact ⟨h1, h2⟩, fun c hc => by rcases hc with rfl | hc; exact .inr (by omega); cases hc; exact .inr n_b⟩
theorem shapes_ok {h0 : Hp} (ok : h0.t.Sized h0.n) {γ : Gra} (hγ : Good γ) {vx vy va : Value} (ga : GraphAt h0 vx vy va γ) :
    Ret Tryz.abEnv 122 [rawV γ vx vy va] h0 fun v h' => Gr h0 h' ∧ TellR 0 h0.n v h' := by
  have S := St.init (M := NoM) ok
  have n1 := hγ.n1
  have n2 := hγ.n2
  have w : wrapI .i64 ((γ.nodes : Int) + 1) = ((γ.nodes + 1 : Nat) : Int) := by rw [wrap64] <;> omega
  refine enter_ret (n := 22) (rs := [.tmp 2]) rfl Tryz.e122 rfl rfl rfl (lbt rfl) ?_
  simp only [BS, Nat.reduceLT, rawV]
  refine step_newS (box_new (by intro x e; cases e)) S ?_; clear S; intro h b S n_b; simp only [vcells] at S
  simp only [BS, LB, Nat.reduceLT, Nat.reduceEqDiff, Nat.reduceAdd, Tryz.FFt2122, ga.X.lenq, ga.Y.lenq, w, S.ld (b := b) (o := 0) (by repeat constructor) rfl, S.ld (b := b) (o := 1) (by repeat constructor) rfl, S.ld (b := b) (o := 2) (by repeat constructor) rfl]
  refine step_newS (bs_new (by first | exact Tryz.u24 | exact Tryz.u25 | exact Tryz.u218) (by first | exact Tryz.e2E | exact Tryz.e51E | exact Tryz.e190E) (by decide) (by first | rfl | exact fillE )) S ?_; clear S; intro h b1 S n_b1; simp only [repL, setL, vcells, List.cons_append, List.nil_append, List.append_nil, List.set_cons_zero, List.set_cons_succ, Nat.reduceMul, Nat.reduceAdd, Nat.zero_mul, Nat.zero_add, Nat.mul_one, Nat.one_mul] at S
  simp only [BS, LB, Nat.reduceLT, Nat.reduceEqDiff]
  have q := S.fr.n
  refine step_ret (values S.ok fl_slice) ?_; intro v h ⟨g, b2, e, n2', l2⟩; replace S := S.call g; clear g
  subst e
  simp only [BS, LB, tupleOf, Nat.reduceLT, Nat.reduceEqDiff]
  have hs : SlAt h 6 encP (.slice (some ⟨b1, 0, none⟩) 2 2) [⟨0, 0, 6, γ.X.length, γ.nodes, (γ.nodes + 1 : Nat)⟩, ⟨0, 1, 6, γ.Y.length, γ.nodes, (γ.nodes + 1 : Nat)⟩] := .inr ⟨b1, 0, none, 2, rfl, Nat.le_refl _, S.lds (b := b1) (o := 0) (n := 2 * 6) m0 (lbt rfl)⟩
  refine ⟨S.gr, _, #[], #[ptrTo b2], _, _, rfl, values_iter S.ok l2 hs (by simp), ?_, fun c hc => by rcases hc with rfl | hc; exact .inr (by omega); cases hc; exact .inr n_b1⟩
  intro p hp
  have := hγ.lX
  have := hγ.lY
  simp at hp
  rcases hp with rfl | rfl <;> (simp only []; omega)
theorem nodes_ok {h0 : Hp} (ok : h0.t.Sized h0.n) {vx vy va vn : Value} : Ret Tryz.abEnv 124 [.agg ⟨[vn, vx, vy, va]⟩] h0 fun v h' => Gr h0 h' ∧ ∃ b, v = .func (.func 140) #[] #[ptrTo b] ∧ h0.n ≤ b ∧ Row h' b [vn, vx, vy, va] 1 := by
  have S := St.init (M := NoM) ok
  refine enter_ret (n := 4) (rs := [.tmp 2]) rfl Tryz.e124 rfl rfl rfl (lbt rfl) ?_
  simp only [BS, Nat.reduceLT]
  refine step_newS (box_new (by intro x e; cases e)) S ?_; clear S; intro h b S n_b; simp only [vcells] at S
  simp only [BS, LB, tupleOf, Nat.reduceLT, Nat.reduceEqDiff]
  exact ⟨S.gr, b, rfl, n_b, S.row m0⟩
theorem arcs_ok {h0 : Hp} (ok : h0.t.Sized h0.n) {vx vy va vn : Value} : Ret Tryz.abEnv 127 [.agg ⟨[vn, vx, vy, va]⟩] h0 fun v h' => Gr h0 h' ∧ ∃ b, v = .func (.func 141) #[] #[ptrTo b] ∧ h0.n ≤ b ∧ Row h' b [vn, vx, vy, va] 1 := by
  have S := St.init (M := NoM) ok
  refine enter_ret (n := 4) (rs := [.tmp 2]) rfl Tryz.e127 rfl rfl rfl (lbt rfl) ?_
  simp only [BS, Nat.reduceLT]
  refine step_newS (box_new (by intro x e; cases e)) S ?_; clear S; intro h b S n_b; simp only [vcells] at S
  simp only [BS, LB, tupleOf, Nat.reduceLT, Nat.reduceEqDiff]
  exact ⟨S.gr, b, rfl, n_b, S.row m0⟩
def plN (X Y : List Int) : List Pl := (List.range X.length).flatMap fun (i : Nat) => [⟨i, 0, 7, X.getD i 0, -2147483648, 2147483648⟩, ⟨i, 1, 7, Y.getD i 0, -2147483648, 2147483648⟩]
theorem plN_len (X Y : List Int) : (plN X Y).length = 2 * X.length := by
  unfold plN
  rw [List.length_flatMap]
  simp [List.map_const']
  omega
theorem plN_at (X Y : List Int) {i : Nat} (hi : i < X.length) : (plN X Y)[2 * i]? = some ⟨i, 0, 7, X.getD i 0, -2147483648, 2147483648⟩ ∧ (plN X Y)[2 * i + 1]? = some ⟨i, 1, 7, Y.getD i 0, -2147483648, 2147483648⟩ := by
  unfold plN
  have key : ∀ (n j : Nat) (f : Nat → Pl) (k : Nat → Pl), j < n → ((List.range n).flatMap fun i => [f i, k i])[2 * j]? = some (f j) ∧ ((List.range n).flatMap fun i => [f i, k i])[2 * j + 1]? = some (k j) := by
    intro n
    induction n with
    | zero => intro j f k hj; omega
    | succ n ih =>
      intro j f k hj
      have hlen : ((List.range n).flatMap fun i => [f i, k i]).length = 2 * n := by rw [List.length_flatMap]; simp [List.map_const']; omega
      rw [List.range_succ, List.flatMap_append]
      by_cases h : j < n
      · rw [List.getElem?_append_left (by omega), List.getElem?_append_left (by omega)]; exact ih j f k h
      · have : j = n := by omega
        subst this
        rw [List.getElem?_append_right (by omega), List.getElem?_append_right (by omega), hlen]
        simp
  exact key _ _ _ _ hi
theorem nodes_iter {h0 : Hp} (ok0 : h0.t.Sized h0.n) {vx vy va vn : Value} {b : Nat} {X Y : List Int} (hb : Row h0 b [vn, vx, vy, va] 1) (hX : SlAt h0 1 (encI .i64) vx X) (hY : SlAt h0 1 (encI .i64) vy Y) (hl : X.length = Y.length) (hlen : X.length < 1000) :
    Iter Tryz.abEnv 140 [] [ptrTo b] h0 (fun c => c = b ∨ blkOf vx c ∨ blkOf vy c) ((plN X Y).map fun p => [.agg ⟨encP p⟩]) := by
  refine iter_mk fun lb J Z Y' h F s hj => ?_
  refine enter (n := 38) (rs := []) rfl Tryz.e140 rfl rfl rfl (lbt rfl) ?_
  have l1 := s.load ok0 (hb.load1 (o := 1) rfl) (.inl rfl)
  simp only [BS, LB, Nat.reduceLT, Nat.reduceEqDiff, Tryz.FFt2140, l1, hX.lenq]
  refine loop_ind (fun (i : Nat) ρ h => i ≤ X.length ∧ ∃ F, ItS h0 (fun c => c = b ∨ blkOf vx c ∨ blkOf vy c) h F ∧ J (2 * i) h F ∧ ρ 0 = .func (.yield lb) #[] #[] ∧ ρ 1 = ptrTo b ∧ ρ 8 = .int .i64 X.length ∧ ρ 9 = .int .i64 i) (fun i => X.length - i) ?_ 0 _ _ ?_
  · intro i ih ρ h ⟨hi, F, s, hj, r0, r1, r8, r9⟩
    by_cases hlt : i < X.length
    · have hX' := s.sl ok0 hX (fun b h => .inr (.inl h))
      have hY' := s.sl ok0 hY (fun b h => .inr (.inr h))
      have l1 := s.load ok0 (hb.load1 (o := 1) rfl) (.inl rfl)
      have l2 := s.load ok0 (hb.load1 (o := 2) rfl) (.inl rfl)
      obtain ⟨c, o, hidx, hld⟩ := hX'.ix (kd := .i64) (encI_len _) hlt
      obtain ⟨c2, o2, hidx2, hld2⟩ := hY'.ix (kd := .i64) (encI_len _) (i := i) (by omega)
      have S := St.init (M := NoM) s.ok
      have w : wrapI .i64 ((i : Int) + 1) = ((i + 1 : Nat) : Int) := by rw [wrap64] <;> omega
      simp only [BS, LB, Nat.reduceLT, Nat.reduceEqDiff, r8, r9, lt_nat, hlt]
      refine draw_step (hoist_no rfl) (q := 1024) (ps := []) (by kernel_rfl) ?_
      simp only [BS, LB, cls, Nat.reduceLT, Nat.reduceEqDiff, Nat.reduceAdd, Nat.reducePow, Nat.reduceDiv, Nat.reduceMod, Nat.reduceLeDiff, Tryz.FFt2140, r1, l1, l2, hidx, hidx2, hld, hld2, encI]
      refine dq_newS (bs_new (by first | exact Tryz.u24 | exact Tryz.u25) (by first | exact Tryz.e2E | exact Tryz.e51E) (by decide) (by first | rfl | exact fillE )) S ?_; clear S; intro h b22 S n_b22 e_b22; simp only [repL, setL, vcells, List.cons_append, List.nil_append, List.append_nil, List.set_cons_zero, List.set_cons_succ, Nat.reduceMul, Nat.reduceAdd, Nat.zero_mul, Nat.zero_add, Nat.mul_one, Nat.one_mul] at S
      simp only [BS, LB, cls, Nat.reduceLT, Nat.reduceEqDiff, Nat.reduceAdd, Nat.reducePow, Nat.reduceDiv, Nat.reduceMod, Nat.reduceLeDiff, Int.cast_ofNat_Int, Tryz.FFt2140]
      have w1 : wrapI .i64 1 = 1 := rfl
      have w2 : wrapI .i64 2 = 2 := rfl
      have hp := plN_at X Y hlt
      rw [run_unroll]
      simp only [BS, LB, Nat.reduceLT, Nat.reduceEqDiff, Nat.reduceAdd, Int.reduceToNat, Int.reduceLE, Int.reduceLT, Int.cast_ofNat_Int, Tryz.FFt2140, r0, S.ld (b := b22) (o := 0) (by repeat constructor) rfl, S.ld (b := b22) (o := 1) (by repeat constructor) rfl]
      refine yield_step Y' (s.gr S.gr) (Y'.gr _ _ _ _ hj S.gr) (i := 2 * i) (by rw [List.getElem?_map, hp.1]; simp [encP, List.getD_eq_getElem?_getD, hlt]) ?_ ?_ ?_
      · intro h2 F2 a s2 mo2 _
        have nF : b22 ∉ F := fun hm => by have := s.lt _ hm; omega
        have R : Row h2 b22 _ 1 := (S.row m0).of_get (mo2.get _ ((S.row m0).lt S.ok) nF)
        have R1 := R.load1 (o := 1) rfl
        have nF2 : True := trivial
        simp only [BS, LB, Nat.reduceLT, Nat.reduceEqDiff, Int.reduceAdd, w1]
        rw [run_unroll]
        simp only [BS, LB, Nat.reduceLT, Nat.reduceEqDiff, Nat.reduceAdd, Int.reduceToNat, Int.reduceLE, Int.reduceLT, Int.cast_ofNat_Int, Tryz.FFt2140, r0, R1]
        refine yield_step Y' s2 a (i := 2 * i + 1) (by rw [List.getElem?_map, hp.2]; simp [encP, List.getD_eq_getElem?_getD, show i < Y.length by omega]) ?_ ?_ ?_
        · intro h3 F3 a s3 _ _
          simp only [BS, LB, Nat.reduceLT, Nat.reduceEqDiff, Int.reduceAdd, w2]
          rw [run_unroll]
          simp only [BS, LB, Nat.reduceLT, Nat.reduceEqDiff, Int.reduceLT, r9, w]
          exact ih (i + 1) _ _ (by omega) ⟨by omega, F3, s3, a, by simp [setR, r0], by simp [setR, r1], by simp [setR, r8], by simp [setR]⟩
        · intro h' a _
          simp only [BS, LB, Nat.reduceLT, Nat.reduceEqDiff]
          exact leave_q rfl ⟨rfl, .inr (.inl ⟨_, rfl, a⟩)⟩
        · intro v h' a
          simp only [BS]
          exact leave_pan (un_nil ⟨rfl, .inr (.inr ⟨_, rfl, a⟩)⟩)
      · intro h' a _
        simp only [BS, LB, Nat.reduceLT, Nat.reduceEqDiff]
        exact leave_q rfl ⟨rfl, .inr (.inl ⟨_, rfl, a⟩)⟩
      · intro v h' a
        simp only [BS]
        exact leave_pan (un_nil ⟨rfl, .inr (.inr ⟨_, rfl, a⟩)⟩)
    · simp only [BS, LB, Nat.reduceLT, r8, r9, lt_nat, hlt]
      have : i = X.length := by omega
      subst this
      exact leave_genN (un_nil ⟨rfl, _, rfl, rfl, .inl ⟨_, F, rfl, by simpa [plN_len] using hj⟩⟩)
  · exact ⟨by omega, F, s, hj, by simp [setR, argR], by simp [setR, argR, ptr_eq], by simp [setR], by simp [setR]⟩
end Go.Ab

end
section
namespace Go.Ab
open Go.Proofs
set_option maxRecDepth 10000
open Tryz in
def Tryz.FFt3141 := aj a1 <| aj s1 <| aj z1 <| aj n1 <| aj u2 <| aj a2 <| aj s2 <| aj z2 <| aj i2 <| aj u3 <| aj a3 <| aj s3 <| aj z3 <| aj i3 <| aj u4 <| aj a4 <| aj s4 <| aj z4 <| aj n4 <| aj u5 <| aj a5 <| aj s5 <| aj z5 <| aj i5 <| aj u6 <| aj a6 <| aj s6 <| aj z6 <| aj i6 <| aj a7 <| aj s7 <| aj z7 <| aj i7 <| aj n7 <| aj p7 <| aj ff7 <| aj d7 <| aj a8 <| aj s8 <| aj z8 <| aj i8 <| aj n8 <| aj p8 <| aj ff8 <| aj d8 <| aj u9 <| aj a9 <| aj s9 <| aj z9 <| aj n9 <| aj u24 <| aj a24 <| aj s24 <| aj z24 <| aj q24 <| aj n24 <| aj u25 <| aj a25 <| aj s25 <| aj z25 <| aj q25 <| aj n25 <| aj a27 <| aj s27 <| aj z27 <| aj i27 <| aj n27 <| aj p27 <| aj ff27 <| aj d27 <| aj a51 <| aj s51 <| aj z51 <| aj i51 <| aj n51 <| aj p51 <| aj ff51 <| aj d51 <| aj u116 <| aj a116 <| aj s116 <| aj z116 <| aj i116 <| aj a190 <| aj s190 <| aj z190 <| aj i190 <| aj n190 <| aj p190 <| aj ff190 <| aj d190 <| aj u218 <| aj a218 <| aj s218 <| aj z218 <| aj q218 <| aj n218 <| aj a219 <| aj s219 <| aj z219 <| n219
def plA (n : Nat) (A : List Arc) : List Pl := (List.range A.length).flatMap fun (i : Nat) => [⟨i, 0, 9, (A.getD i default).s, 0, n⟩, ⟨i, 1, 9, (A.getD i default).t, 0, n⟩, ⟨i, 2, 10, (A.getD i default).w, 0, 2147483648⟩]
theorem flat3_at {α : Type} (f k l : Nat → α) : ∀ (n j : Nat), j < n → ((List.range n).flatMap fun i => [f i, k i, l i])[3 * j]? = some (f j) ∧ ((List.range n).flatMap fun i => [f i, k i, l i])[3 * j + 1]? = some (k j) ∧ ((List.range n).flatMap fun i => [f i, k i, l i])[3 * j + 2]? = some (l j) := by
  intro n
  induction n with
  | zero => intro j hj; omega
  | succ n ih =>
    intro j hj
    have hlen : ((List.range n).flatMap fun i => [f i, k i, l i]).length = 3 * n := by rw [List.length_flatMap]; simp [List.map_const']; omega
    rw [List.range_succ, List.flatMap_append]
    by_cases h : j < n
    · rw [List.getElem?_append_left (by omega), List.getElem?_append_left (by omega), List.getElem?_append_left (by omega)]; exact ih j h
    · have : j = n := by omega
      subst this
      rw [List.getElem?_append_right (by omega), List.getElem?_append_right (by omega), List.getElem?_append_right (by omega), hlen]
      simp
theorem plA_len (n : Nat) (A : List Arc) : (plA n A).length = 3 * A.length := by
  unfold plA
  rw [List.length_flatMap]
  simp [List.map_const']
  omega
theorem arcs_iter {h0 : Hp} (ok0 : h0.t.Sized h0.n) {vx vy va : Value} {b n : Nat} {A : List Arc} (hb : Row h0 b [.int .i64 n, vx, vy, va] 1) (hA : SlAt h0 3 encA va A) (hlen : A.length < 1000) :
    Iter Tryz.abEnv 141 [] [ptrTo b] h0 (fun c => c = b ∨ blkOf va c) ((plA n A).map fun p => [.agg ⟨encP p⟩]) := by
  refine iter_mk fun lb J Z Y' h F s hj => ?_
  refine enter (n := 44) (rs := []) rfl Tryz.e141 rfl rfl rfl (lbt rfl) ?_
  have l0 := s.load ok0 (hb.load1 (o := 0) rfl) (.inl rfl)
  have l3 := s.load ok0 (hb.load1 (o := 3) rfl) (.inl rfl)
  simp only [BS, LB, Nat.reduceLT, Nat.reduceEqDiff, Tryz.FFt3141, l0, l3, hA.lenq]
  refine loop_ind (fun (i : Nat) ρ h => i ≤ A.length ∧ ∃ F, ItS h0 (fun c => c = b ∨ blkOf va c) h F ∧ J (3 * i) h F ∧ ρ 0 = .func (.yield lb) #[] #[] ∧ ρ 3 = .int .i64 n ∧ ρ 11 = va ∧ ρ 12 = .int .i64 A.length ∧ ρ 13 = .int .i64 i) (fun i => A.length - i) ?_ 0 _ _ ?_
  · intro i ih ρ h ⟨hi, F, s, hj, r0, r3, r11, r12, r13⟩
    by_cases hlt : i < A.length
    · have hA' := s.sl ok0 hA (fun b h => .inr h)
      obtain ⟨c, o, hidx, hld⟩ := hA'.ix (kd := .i64) encA_len hlt
      have S := St.init (M := NoM) s.ok
      have w : wrapI .i64 ((i : Int) + 1) = ((i + 1 : Nat) : Int) := by rw [wrap64] <;> omega
      have w1 : wrapI .i64 1 = 1 := rfl
      have w2 : wrapI .i64 2 = 2 := rfl
      have w3 : wrapI .i64 3 = 3 := rfl
      have hp := flat3_at (fun (i : Nat) => (⟨i, 0, 9, (A.getD i default).s, 0, n⟩ : Pl)) (fun (i : Nat) => ⟨i, 1, 9, (A.getD i default).t, 0, n⟩) (fun (i : Nat) => ⟨i, 2, 10, (A.getD i default).w, 0, 2147483648⟩) A.length i hlt
      have hd : A.getD i default = A[i] := by simp [List.getD_eq_getElem?_getD, hlt]
      simp only [BS, LB, Nat.reduceLT, Nat.reduceEqDiff, Tryz.FFt3141, r11, r12, r13, lt_nat, hlt, hidx, hld]
      refine step_newS allocR_new S ?_; clear S; intro h b5 S n_b5
      simp only [BS, LB, Nat.reduceLT, Nat.reduceEqDiff, encA]
      first | refine step_u (S.store (i := 0) rfl ?_ ?_ rfl rfl ?_ ono) ?_ | refine step_u (S.store (i := 1) rfl ?_ ?_ rfl rfl ?_ ono) ?_ | refine step_u (S.store (i := 2) rfl ?_ ?_ rfl rfl ?_ ono) ?_ | refine step_u (S.store (i := 3) rfl ?_ ?_ rfl rfl ?_ ono) ?_ | refine step_u (S.store (i := 4) rfl ?_ ?_ rfl rfl ?_ ono) ?_ | refine step_u (S.store (i := 5) rfl ?_ ?_ rfl rfl ?_ ono) ?_ | refine step_u (S.store (i := 6) rfl ?_ ?_ rfl rfl ?_ ono) ?_ | refine step_u (S.store (i := 7) rfl ?_ ?_ rfl rfl ?_ ono) ?_
      · exact (by first | exact Tryz.s7 | exact Tryz.s8 | exact Tryz.s27 | exact Tryz.s51 | exact Tryz.s190)
      · exact (by intro x e; cases e)
      · exact lbt rfl
      clear S; rintro h ⟨S, mo⟩; clear mo; simp only [List.set_cons_zero, List.set_cons_succ, vcells, lay, List.take, List.drop, List.nil_append, List.cons_append, List.append_nil, List.length_cons, List.length_nil, Nat.reduceAdd, Nat.add_zero] at S
      simp only [BS, LB, Nat.reduceLT, Nat.reduceEqDiff, Nat.reduceAdd, Tryz.FFt3141, r3, S.ld (b := b5) (o := 0) (by repeat constructor) rfl, S.ld (b := b5) (o := 1) (by repeat constructor) rfl, S.ld (b := b5) (o := 2) (by repeat constructor) rfl]
      refine step_newS (bs_new (by first | exact Tryz.u24 | exact Tryz.u25 | exact Tryz.u218) (by first | exact Tryz.e2E | exact Tryz.e51E | exact Tryz.e190E) (by decide) (by first | rfl | exact fillE )) S ?_; clear S; intro h bl S n_bl; simp only [repL, setL, vcells, List.cons_append, List.nil_append, List.append_nil, List.set_cons_zero, List.set_cons_succ, Nat.reduceMul, Nat.reduceAdd, Nat.zero_mul, Nat.zero_add, Nat.mul_one, Nat.one_mul] at S
      simp only [BS, LB, Nat.reduceLT, Nat.reduceEqDiff, Int.cast_ofNat_Int, Tryz.FFt3141]
      have nF : bl ∉ F := fun hm => by have := s.lt _ hm; omega
      have R : Row h bl _ 1 := S.row m0
      have hbl := R.lt S.ok
      rw [run_unroll]
      simp only [BS, LB, Nat.reduceLT, Nat.reduceEqDiff, Int.reduceToNat, Int.reduceLE, Int.reduceLT, Int.cast_ofNat_Int, Tryz.FFt3141, S.lds (b := bl) (o := 0) (n := 6) (by repeat constructor) (lbt rfl)]
      refine step_newS allocR_new S ?_; clear S; intro h b7 S n_b7
      simp only [BS, LB, Nat.reduceLT, Nat.reduceEqDiff, List.drop_zero, List.take_succ_cons, List.take_zero]
      first | refine step_u (S.store (i := 0) rfl ?_ ?_ rfl rfl ?_ ono) ?_ | refine step_u (S.store (i := 1) rfl ?_ ?_ rfl rfl ?_ ono) ?_ | refine step_u (S.store (i := 2) rfl ?_ ?_ rfl rfl ?_ ono) ?_ | refine step_u (S.store (i := 3) rfl ?_ ?_ rfl rfl ?_ ono) ?_ | refine step_u (S.store (i := 4) rfl ?_ ?_ rfl rfl ?_ ono) ?_ | refine step_u (S.store (i := 5) rfl ?_ ?_ rfl rfl ?_ ono) ?_ | refine step_u (S.store (i := 6) rfl ?_ ?_ rfl rfl ?_ ono) ?_ | refine step_u (S.store (i := 7) rfl ?_ ?_ rfl rfl ?_ ono) ?_
      · exact (by first | exact Tryz.s7 | exact Tryz.s8 | exact Tryz.s27 | exact Tryz.s51 | exact Tryz.s190)
      · exact (by intro x e; cases e)
      · exact lbt rfl
      clear S; rintro h ⟨S, mo⟩; clear mo; simp only [List.set_cons_zero, List.set_cons_succ, vcells, lay, List.take, List.drop, List.nil_append, List.cons_append, List.append_nil, List.length_cons, List.length_nil, Nat.reduceAdd, Nat.add_zero] at S
      simp only [BS, LB, Nat.reduceLT, Nat.reduceEqDiff, Tryz.FFt3141, r0, S.lds (b := b7) (o := 0) (n := 6) (by repeat constructor) (lbt rfl)]
      have R : Row h bl _ 1 := S.row m1
      refine yield_step Y' (s.gr S.gr) (Y'.gr _ _ _ _ hj S.gr) (i := 3 * i) (by rw [List.getElem?_map, show (plA n A)[3 * i]? = _ from hp.1, hd]; simp [encP]) ?_ ?_ ?_
      · intro h2 F2 a s2 mo2 hF2
        have R0 := R
        replace R : Row h2 bl _ 1 := R.of_get (mo2.get _ (R.lt S.ok) nF)
        have nF2 : bl ∉ F2 := fun hm => by
          rcases hF2 _ hm with hm | hm
          · exact nF hm
          · have := R0.lt S.ok; omega
        have S := St.init (M := NoM) s2.ok
        simp only [BS, LB, Nat.reduceLT, Nat.reduceEqDiff, Int.reduceAdd, w1]
        rw [run_unroll]
        simp only [BS, LB, Nat.reduceLT, Nat.reduceEqDiff, Int.reduceToNat, Int.reduceLE, Int.reduceLT, Int.cast_ofNat_Int, Nat.reduceMul, Tryz.FFt3141, R.load (o := 6) (n := 6) (lbt rfl)]
        refine step_newS allocR_new S ?_; clear S; intro h b8 S n_b8
        simp only [BS, LB, Nat.reduceLT, Nat.reduceEqDiff, List.drop_succ_cons, List.drop_zero, List.take_succ_cons, List.take_zero]
        first | refine step_u (S.store (i := 0) rfl ?_ ?_ rfl rfl ?_ ono) ?_ | refine step_u (S.store (i := 1) rfl ?_ ?_ rfl rfl ?_ ono) ?_ | refine step_u (S.store (i := 2) rfl ?_ ?_ rfl rfl ?_ ono) ?_ | refine step_u (S.store (i := 3) rfl ?_ ?_ rfl rfl ?_ ono) ?_ | refine step_u (S.store (i := 4) rfl ?_ ?_ rfl rfl ?_ ono) ?_ | refine step_u (S.store (i := 5) rfl ?_ ?_ rfl rfl ?_ ono) ?_ | refine step_u (S.store (i := 6) rfl ?_ ?_ rfl rfl ?_ ono) ?_ | refine step_u (S.store (i := 7) rfl ?_ ?_ rfl rfl ?_ ono) ?_
        · exact (by first | exact Tryz.s7 | exact Tryz.s8 | exact Tryz.s27 | exact Tryz.s51 | exact Tryz.s190)
        · exact (by intro x e; cases e)
        · exact lbt rfl
        clear S; rintro h ⟨S, mo⟩; clear mo; simp only [List.set_cons_zero, List.set_cons_succ, vcells, lay, List.take, List.drop, List.nil_append, List.cons_append, List.append_nil, List.length_cons, List.length_nil, Nat.reduceAdd, Nat.add_zero] at S
        simp only [BS, LB, Nat.reduceLT, Nat.reduceEqDiff, Tryz.FFt3141, r0, S.lds (b := b8) (o := 0) (n := 6) (by repeat constructor) (lbt rfl)]
        replace R := R.gr S.gr
        refine yield_step Y' (s2.gr S.gr) (Y'.gr _ _ _ _ a S.gr) (i := 3 * i + 1) (by rw [List.getElem?_map, show (plA n A)[3 * i + 1]? = _ from hp.2.1, hd]; simp [encP]) ?_ ?_ ?_
        · intro h3 F3 a s3 mo3 hF3
          replace R : Row h3 bl _ 1 := R.of_get (mo3.get _ (R.lt S.ok) nF2)
          have S := St.init (M := NoM) s3.ok
          simp only [BS, LB, Nat.reduceLT, Nat.reduceEqDiff, Int.reduceAdd, w2]
          rw [run_unroll]
          simp only [BS, LB, Nat.reduceLT, Nat.reduceEqDiff, Int.reduceToNat, Int.reduceLE, Int.reduceLT, Int.cast_ofNat_Int, Nat.reduceMul, Tryz.FFt3141, R.load (o := 12) (n := 6) (lbt rfl)]
          refine step_newS allocR_new S ?_; clear S; intro h b9 S n_b9
          simp only [BS, LB, Nat.reduceLT, Nat.reduceEqDiff, List.drop_succ_cons, List.drop_zero, List.take_succ_cons, List.take_zero]
          first | refine step_u (S.store (i := 0) rfl ?_ ?_ rfl rfl ?_ ono) ?_ | refine step_u (S.store (i := 1) rfl ?_ ?_ rfl rfl ?_ ono) ?_ | refine step_u (S.store (i := 2) rfl ?_ ?_ rfl rfl ?_ ono) ?_ | refine step_u (S.store (i := 3) rfl ?_ ?_ rfl rfl ?_ ono) ?_ | refine step_u (S.store (i := 4) rfl ?_ ?_ rfl rfl ?_ ono) ?_ | refine step_u (S.store (i := 5) rfl ?_ ?_ rfl rfl ?_ ono) ?_ | refine step_u (S.store (i := 6) rfl ?_ ?_ rfl rfl ?_ ono) ?_ | refine step_u (S.store (i := 7) rfl ?_ ?_ rfl rfl ?_ ono) ?_
          · exact (by first | exact Tryz.s7 | exact Tryz.s8 | exact Tryz.s27 | exact Tryz.s51 | exact Tryz.s190)
          · exact (by intro x e; cases e)
          · exact lbt rfl
          clear S; rintro h ⟨S, mo⟩; clear mo; simp only [List.set_cons_zero, List.set_cons_succ, vcells, lay, List.take, List.drop, List.nil_append, List.cons_append, List.append_nil, List.length_cons, List.length_nil, Nat.reduceAdd, Nat.add_zero] at S
          simp only [BS, LB, Nat.reduceLT, Nat.reduceEqDiff, Tryz.FFt3141, r0, S.lds (b := b9) (o := 0) (n := 6) (by repeat constructor) (lbt rfl)]
          refine yield_step Y' (s3.gr S.gr) (Y'.gr _ _ _ _ a S.gr) (i := 3 * i + 2) (by rw [List.getElem?_map, show (plA n A)[3 * i + 2]? = _ from hp.2.2, hd]; simp [encP]) ?_ ?_ ?_
          · intro h4 F4 a s4 mo4 hF4
            simp only [BS, LB, Nat.reduceLT, Nat.reduceEqDiff, Int.reduceAdd, w3]
            rw [run_unroll]
            simp only [BS, LB, Nat.reduceLT, Nat.reduceEqDiff, Int.reduceLT, r13, w]
            exact ih (i + 1) _ _ (by omega) ⟨by omega, F4, s4, a, by simp [setR, r0], by simp [setR, r3], by simp [setR, r11], by simp [setR, r12], by simp [setR]⟩
          · intro h' a _
            simp only [BS, LB, Nat.reduceLT, Nat.reduceEqDiff]
            exact leave_q rfl ⟨rfl, .inr (.inl ⟨_, rfl, a⟩)⟩
          · intro v h' a
            simp only [BS]
            exact leave_pan (un_nil ⟨rfl, .inr (.inr ⟨_, rfl, a⟩)⟩)
        · intro h' a _
          simp only [BS, LB, Nat.reduceLT, Nat.reduceEqDiff]
          exact leave_q rfl ⟨rfl, .inr (.inl ⟨_, rfl, a⟩)⟩
        · intro v h' a
          simp only [BS]
          exact leave_pan (un_nil ⟨rfl, .inr (.inr ⟨_, rfl, a⟩)⟩)
      · intro h' a _
        simp only [BS, LB, Nat.reduceLT, Nat.reduceEqDiff]
        exact leave_q rfl ⟨rfl, .inr (.inl ⟨_, rfl, a⟩)⟩
      · intro v h' a
        simp only [BS]
        exact leave_pan (un_nil ⟨rfl, .inr (.inr ⟨_, rfl, a⟩)⟩)
    · simp only [BS, LB, Nat.reduceLT, r12, r13, lt_nat, hlt]
      have : i = A.length := by omega
      subst this
      exact leave_genN (un_nil ⟨rfl, _, rfl, rfl, .inl ⟨_, F, rfl, by simpa [plA_len] using hj⟩⟩)
  · exact ⟨by omega, F, s, hj, by simp [setR, argR], by simp [setR], by simp [setR], by simp [setR], by simp [setR]⟩
end Go.Ab

end
section
namespace Go.Ab
open Go.Proofs
set_option maxRecDepth 10000
open Tryz in
def Tryz.FFt4119 := aj a1 <| aj s1 <| aj z1 <| aj n1 <| aj u2 <| aj a2 <| aj s2 <| aj z2 <| aj i2 <| aj u3 <| aj a3 <| aj s3 <| aj z3 <| aj i3 <| aj u24 <| aj a24 <| aj s24 <| aj z24 <| aj q24 <| aj n24 <| aj u25 <| aj a25 <| aj s25 <| aj z25 <| aj q25 <| aj n25 <| aj a27 <| aj s27 <| aj z27 <| aj i27 <| aj n27 <| aj p27 <| aj ff27 <| aj d27 <| aj a51 <| aj s51 <| aj z51 <| aj i51 <| aj n51 <| aj p51 <| aj ff51 <| aj d51 <| aj u116 <| aj a116 <| aj s116 <| aj z116 <| aj i116 <| aj a184 <| aj s184 <| aj z184 <| n184
open Tryz in
def Tryz.FFt4121 := aj a1 <| aj s1 <| aj z1 <| aj n1 <| aj u2 <| aj a2 <| aj s2 <| aj z2 <| aj i2 <| aj u3 <| aj a3 <| aj s3 <| aj z3 <| aj i3 <| aj u24 <| aj a24 <| aj s24 <| aj z24 <| aj q24 <| aj n24 <| aj u25 <| aj a25 <| aj s25 <| aj z25 <| aj q25 <| aj n25 <| aj a27 <| aj s27 <| aj z27 <| aj i27 <| aj n27 <| aj p27 <| aj ff27 <| aj d27 <| aj a51 <| aj s51 <| aj z51 <| aj i51 <| aj n51 <| aj p51 <| aj ff51 <| aj d51 <| aj a184 <| aj s184 <| aj z184 <| n184
open Tryz in
def Tryz.FFt4125 := aj a1 <| aj s1 <| aj z1 <| aj n1 <| aj u2 <| aj a2 <| aj s2 <| aj z2 <| aj i2 <| aj u3 <| aj a3 <| aj s3 <| aj z3 <| aj i3 <| aj u24 <| aj a24 <| aj s24 <| aj z24 <| aj q24 <| aj n24 <| aj u25 <| aj a25 <| aj s25 <| aj z25 <| aj q25 <| aj n25 <| aj a27 <| aj s27 <| aj z27 <| aj i27 <| aj n27 <| aj p27 <| aj ff27 <| aj d27 <| aj a51 <| aj s51 <| aj z51 <| aj i51 <| aj n51 <| aj p51 <| aj ff51 <| aj d51 <| aj u116 <| aj a116 <| aj s116 <| aj z116 <| aj i116 <| aj a184 <| aj s184 <| aj z184 <| n184
open Tryz in
def Tryz.FFt4123 := aj a1 <| aj s1 <| aj z1 <| aj n1 <| aj u2 <| aj a2 <| aj s2 <| aj z2 <| aj i2 <| aj u3 <| aj a3 <| aj s3 <| aj z3 <| aj i3 <| aj u24 <| aj a24 <| aj s24 <| aj z24 <| aj q24 <| aj n24 <| aj u25 <| aj a25 <| aj s25 <| aj z25 <| aj q25 <| aj n25 <| aj a27 <| aj s27 <| aj z27 <| aj i27 <| aj n27 <| aj p27 <| aj ff27 <| aj d27 <| aj a51 <| aj s51 <| aj z51 <| aj i51 <| aj n51 <| aj p51 <| aj ff51 <| aj d51 <| aj a184 <| aj s184 <| aj z184 <| n184
open Tryz in
def Tryz.FFt4126 := aj a1 <| aj s1 <| aj z1 <| aj n1 <| aj u2 <| aj a2 <| aj s2 <| aj z2 <| aj i2 <| aj u3 <| aj a3 <| aj s3 <| aj z3 <| aj i3 <| aj u24 <| aj a24 <| aj s24 <| aj z24 <| aj q24 <| aj n24 <| aj u25 <| aj a25 <| aj s25 <| aj z25 <| aj q25 <| aj n25 <| aj a27 <| aj s27 <| aj z27 <| aj i27 <| aj n27 <| aj p27 <| aj ff27 <| aj d27 <| aj a51 <| aj s51 <| aj z51 <| aj i51 <| aj n51 <| aj p51 <| aj ff51 <| aj d51 <| aj a184 <| aj s184 <| aj z184 <| n184
theorem look1_ok {h0 : Hp} (ok : h0.t.Sized h0.n) {γ : Gra} (hγ : Good γ) {vx vy va : Value} {b : Nat} (hb : Row h0 b [.int .i64 γ.nodes, vx, vy, va] 1) : Ret Tryz.abEnv 119 [ptrTo b] h0 fun v h' => Gr h0 h' ∧ TellR 0 h0.n v h' := by
  have S := St.init (M := NoM) ok
  have n1 := hγ.n1
  have n2 := hγ.n2
  refine enter_ret (n := 5) (rs := [.tmp 1]) rfl Tryz.e119 rfl rfl rfl (lbt rfl) ?_
  simp only [BS, LB, Nat.reduceLT, Nat.reduceEqDiff, Tryz.FFt4119, hb.load1 (o := 0) rfl]
  refine step_ret (one_ok S.ok (by omega) (by omega)) ?_; intro v h ⟨g, t⟩; replace S := S.call g; clear g
  simp only [BS, LB, tupleOf, Nat.reduceLT, Nat.reduceEqDiff]
  exact ⟨S.gr, t⟩
theorem look2_ok {h0 : Hp} (ok : h0.t.Sized h0.n) {γ : Gra} (hγ : Good γ) {vx vy va : Value} (ga : GraphAt h0 vx vy va γ) {b : Nat} (hb : Row h0 b [.int .i64 γ.nodes, vx, vy, va] 1) : Ret Tryz.abEnv 121 [ptrTo b] h0 fun v h' => Gr h0 h' ∧ TellR 0 h0.n v h' := by
  have S := St.init (M := NoM) ok
  refine enter_ret (n := 4) (rs := [.tmp 1]) rfl Tryz.e121 rfl rfl rfl (lbt rfl) ?_
  simp only [BS, LB, Nat.reduceLT, Nat.reduceEqDiff, Tryz.FFt4121, hb.load (o := 0) (n := 4) (lbt rfl)]
  refine step_ret (shapes_ok S.ok hγ ga) ?_; intro v h ⟨g, t⟩; replace S := S.call g; clear g
  simp only [BS, LB, tupleOf, Nat.reduceLT, Nat.reduceEqDiff]
  exact ⟨S.gr, t⟩
theorem look4_ok {h0 : Hp} (ok : h0.t.Sized h0.n) {γ : Gra} (hγ : Good γ) {vx vy va : Value} (ga : GraphAt h0 vx vy va γ) {b : Nat} (hb : Row h0 b [.int .i64 γ.nodes, vx, vy, va] 1) : Ret Tryz.abEnv 125 [ptrTo b] h0 fun v h' => Gr h0 h' ∧ TellR 0 h0.n v h' := by
  have S := St.init (M := NoM) ok
  have n2 := hγ.many
  refine enter_ret (n := 6) (rs := [.tmp 1]) rfl Tryz.e125 rfl rfl rfl (lbt rfl) ?_
  simp only [BS, LB, Nat.reduceLT, Nat.reduceEqDiff, Tryz.FFt4125, hb.load1 (o := 3) rfl, ga.A.lenq]
  refine step_ret (one_ok S.ok (by omega) (by omega)) ?_; intro v h ⟨g, t⟩; replace S := S.call g; clear g
  simp only [BS, LB, tupleOf, Nat.reduceLT, Nat.reduceEqDiff]
  exact ⟨S.gr, t⟩
theorem look3_ok {h0 : Hp} (ok : h0.t.Sized h0.n) {γ : Gra} (hγ : Good γ) {vx vy va : Value} (ga : GraphAt h0 vx vy va γ) {b n0 : Nat} (hX : ∀ c, blkOf vx c → c < n0) (hY : ∀ c, blkOf vy c → c < n0) (hb : Row h0 b [.int .i64 γ.nodes, vx, vy, va] 1) : Ret Tryz.abEnv 123 [ptrTo b] h0 fun v h' => Gr h0 h' ∧ TellR n0 h0.n v h' := by
  have S := St.init (M := NoM) ok
  have n2 := hγ.n2
  have lX := hγ.lX
  have lY := hγ.lY
  refine enter_ret (n := 4) (rs := [.tmp 1]) rfl Tryz.e123 rfl rfl rfl (lbt rfl) ?_
  simp only [BS, LB, Nat.reduceLT, Nat.reduceEqDiff, Tryz.FFt4123, hb.load (o := 0) (n := 4) (lbt rfl)]
  refine step_ret (nodes_ok S.ok) ?_; intro v h ⟨g, b2, e, q2, R⟩; replace S := S.call g; clear g
  subst e
  simp only [BS, LB, tupleOf, Nat.reduceLT, Nat.reduceEqDiff]
  refine ⟨S.gr, _, #[], #[ptrTo b2], _, _, rfl, nodes_iter S.ok R (ga.X.gr S.gr) (ga.Y.gr S.gr) (by omega) (by omega), fun p hp => ?_, fun c hc => ?_⟩
  · unfold plN at hp
    simp only [List.mem_flatMap, List.mem_range, List.mem_cons, List.not_mem_nil, or_false] at hp
    obtain ⟨i, hi, rfl | rfl⟩ := hp
    · have := hγ.cX γ.X[i] (List.getElem_mem hi)
      simp only [List.getD_eq_getElem?_getD, List.getElem?_eq_getElem hi, Option.getD_some]; omega
    · have hi' : i < γ.Y.length := by omega
      have := hγ.cY γ.Y[i] (List.getElem_mem hi')
      simp only [List.getD_eq_getElem?_getD, List.getElem?_eq_getElem hi', Option.getD_some]; omega
  · rcases hc with rfl | hc | hc
    · exact .inr q2
    · exact .inl (hX c hc)
    · exact .inl (hY c hc)
theorem look5_ok {h0 : Hp} (ok : h0.t.Sized h0.n) {γ : Gra} (hγ : Good γ) {vx vy va : Value} (ga : GraphAt h0 vx vy va γ) {b n0 : Nat} (hA : ∀ c, blkOf va c → c < n0) (hb : Row h0 b [.int .i64 γ.nodes, vx, vy, va] 1) : Ret Tryz.abEnv 126 [ptrTo b] h0 fun v h' => Gr h0 h' ∧ TellR n0 h0.n v h' := by
  have S := St.init (M := NoM) ok
  have n2 := hγ.many
  refine enter_ret (n := 4) (rs := [.tmp 1]) rfl Tryz.e126 rfl rfl rfl (lbt rfl) ?_
  simp only [BS, LB, Nat.reduceLT, Nat.reduceEqDiff, Tryz.FFt4126, hb.load (o := 0) (n := 4) (lbt rfl)]
  refine step_ret (arcs_ok S.ok) ?_; intro v h ⟨g, b2, e, q2, R⟩; replace S := S.call g; clear g
  subst e
  simp only [BS, LB, tupleOf, Nat.reduceLT, Nat.reduceEqDiff]
  refine ⟨S.gr, _, #[], #[ptrTo b2], _, _, rfl, arcs_iter S.ok R (ga.A.gr S.gr) (by omega), fun p hp => ?_, fun c hc => ?_⟩
  · unfold plA at hp
    simp only [List.mem_flatMap, List.mem_range, List.mem_cons, List.not_mem_nil, or_false] at hp
    obtain ⟨i, hi, h⟩ := hp
    have := hγ.arcs γ.arcs[i] (List.getElem_mem hi)
    simp only [List.getD_eq_getElem?_getD, List.getElem?_eq_getElem hi, Option.getD_some] at h
    rcases h with rfl | rfl | rfl <;> (simp only []; omega)
  · rcases hc with rfl | hc
    · exact .inr q2
    · exact .inl (hA c hc)
end Go.Ab

end
section
namespace Go.Ab
open Go.Proofs
set_option maxRecDepth 10000
open Tryz in
def Tryz.FFt5100 := aj a1 <| aj s1 <| aj z1 <| aj n1 <| aj u2 <| aj a2 <| aj s2 <| aj z2 <| aj i2 <| aj u3 <| aj a3 <| aj s3 <| aj z3 <| aj i3 <| aj u4 <| aj a4 <| aj s4 <| aj z4 <| aj n4 <| aj u5 <| aj a5 <| aj s5 <| aj z5 <| aj i5 <| aj u6 <| aj a6 <| aj s6 <| aj z6 <| aj i6 <| aj a7 <| aj s7 <| aj z7 <| aj i7 <| aj n7 <| aj p7 <| aj ff7 <| aj d7 <| aj a8 <| aj s8 <| aj z8 <| aj i8 <| aj n8 <| aj p8 <| aj ff8 <| aj d8 <| aj u17 <| aj a17 <| aj s17 <| aj z17 <| aj q17 <| aj i17 <| aj n17 <| aj a19 <| aj s19 <| aj z19 <| aj i19 <| aj n19 <| aj p19 <| aj ff19 <| aj d19 <| aj a20 <| aj s20 <| aj z20 <| aj q20 <| aj n20 <| aj u24 <| aj a24 <| aj s24 <| aj z24 <| aj q24 <| aj n24 <| aj u25 <| aj a25 <| aj s25 <| aj z25 <| aj q25 <| aj n25 <| aj a27 <| aj s27 <| aj z27 <| aj i27 <| aj n27 <| aj p27 <| aj ff27 <| aj d27 <| aj a51 <| aj s51 <| aj z51 <| aj i51 <| aj n51 <| aj p51 <| aj ff51 <| aj d51 <| aj u116 <| aj a116 <| aj s116 <| aj z116 <| aj i116 <| aj a118 <| aj s118 <| aj z118 <| aj i118 <| aj n118 <| aj p118 <| aj ff118 <| aj d118 <| aj u120 <| aj a120 <| aj s120 <| aj z120 <| aj q120 <| aj i120 <| aj n120 <| aj a155 <| aj s155 <| aj z155 <| aj i155 <| aj n155 <| aj p155 <| aj ff155 <| aj d155 <| aj a184 <| aj s184 <| aj z184 <| aj n184 <| aj a186 <| aj s186 <| aj z186 <| aj n186 <| aj u188 <| aj a188 <| aj s188 <| aj z188 <| aj q188 <| aj n188 <| aj a190 <| aj s190 <| aj z190 <| aj i190 <| aj n190 <| aj p190 <| aj ff190 <| aj d190 <| aj a248 <| aj s248 <| aj z248 <| aj i248 <| aj n248 <| aj p248 <| aj ff248 <| d248
theorem look_ok {h0 : Hp} (ok : h0.t.Sized h0.n) {γ : Gra} (hγ : Good γ) {vx vy va : Value} (ga : GraphAt h0 vx vy va γ) : Ret Tryz.abEnv 100 [rawV γ vx vy va] h0 fun v h' => Gr h0 h' := by
  have S := St.init (M := NoM) ok
  refine enter_ret (n := 44) (rs := []) rfl Tryz.e100 rfl rfl rfl (lbt rfl) ?_
  simp only [BS, Nat.reduceLT, rawV]
  refine step_newS (box_new (by intro x e; cases e)) S ?_; clear S; intro h b S n_b; simp only [vcells] at S
  simp only [BS, LB, Nat.reduceLT, Nat.reduceEqDiff]
  refine step_newS (bs_new (by first | exact Tryz.u24 | exact Tryz.u25 | exact Tryz.u188) (by first | exact Tryz.e2E | exact Tryz.e51E | exact Tryz.e186E) (by decide) (by first | rfl | exact fillE )) S ?_; clear S; intro h bs S n_bs; simp only [repL, setL, vcells, List.cons_append, List.nil_append, List.append_nil, List.set_cons_zero, List.set_cons_succ, Nat.reduceMul, Nat.reduceAdd, Nat.zero_mul, Nat.zero_add, Nat.mul_one, Nat.one_mul] at S
  simp only [BS, LB, Nat.reduceLT, Nat.reduceEqDiff, Int.cast_ofNat_Int, Tryz.FFt5100]
  have hq : ∀ i, i < 5 → ∃ g a c, [Value.func (.func 119) #[] #[.pointer (some ⟨b, 0, none⟩)], .func (.func 121) #[] #[.pointer (some ⟨b, 0, none⟩)], .func (.func 123) #[] #[.pointer (some ⟨b, 0, none⟩)], .func (.func 125) #[] #[.pointer (some ⟨b, 0, none⟩)], .func (.func 126) #[] #[.pointer (some ⟨b, 0, none⟩)]][i]? = some (.func (.func g) a c) ∧
      ∀ h', Gr h h' → Ret Tryz.abEnv g (a.toList ++ c.toList) h' fun v h'' => Gr h' h'' ∧ TellR h0.n h'.n v h'' := by
    intro i hi
    have hr := S.row (b := b) m1
    have ga' := ga.gr S.gr
    have wk : ∀ h' v h'', Gr h' h'' ∧ TellR 0 h'.n v h'' → Gr h' h'' ∧ TellR h0.n h'.n v h'' := by
      rintro h' v h'' ⟨a, gi, a1, a2, ps, D, b1, b2, b3, b4⟩
      exact ⟨a, gi, a1, a2, ps, D, b1, b2, b3, fun c hc => (b4 c hc).elim (fun h => by omega) .inr⟩
    match i, hi with
    | 0, _ => exact ⟨_, _, _, rfl, fun h' g => ret_mono (look1_ok g.ok hγ (hr.gr g)) (wk h')⟩
    | 1, _ => exact ⟨_, _, _, rfl, fun h' g => ret_mono (look2_ok g.ok hγ (ga'.gr g) (hr.gr g)) (wk h')⟩
    | 2, _ => exact ⟨_, _, _, rfl, fun h' g => look3_ok g.ok hγ (ga'.gr g) (fun c hc => ga.X.lt ok hc) (fun c hc => ga.Y.lt ok hc) (hr.gr g)⟩
    | 3, _ => exact ⟨_, _, _, rfl, fun h' g => ret_mono (look4_ok g.ok hγ (ga'.gr g) (hr.gr g)) (wk h')⟩
    | 4, _ => exact ⟨_, _, _, rfl, fun h' g => look5_ok g.ok hγ (ga'.gr g) (fun c hc => ga.A.lt ok hc) (hr.gr g)⟩
  have Rs := S.row (b := bs) m0
  have g0 := S.gr
  have ok1 := S.ok
  clear S ga ok
  revert hq Rs
  generalize [Value.func (.func 119) #[] #[.pointer (some ⟨b, 0, none⟩)], .func (.func 121) #[] #[.pointer (some ⟨b, 0, none⟩)], .func (.func 123) #[] #[.pointer (some ⟨b, 0, none⟩)], .func (.func 125) #[] #[.pointer (some ⟨b, 0, none⟩)], .func (.func 126) #[] #[.pointer (some ⟨b, 0, none⟩)]] = fs
  intro hq Rs
  rename Hp => h1
  have lt1 := Rs.lt ok1
  have ge1 := g0.n
  have S := St.init (M := NoM) ok1
  refine loop_indD (fun (i : Nat) ρ d h' => i ≤ 5 ∧ ∃ dbs : List Nat, d = dbs.map dfrOf ∧ St NoM h1 h' (dfrL dbs) [] ∧ ρ 10 = .slice (some ⟨bs, 0, none⟩) 5 5 ∧ ρ 11 = .int .i64 5 ∧ ρ 12 = .int .i64 i) (fun i => 5 - i) ?_ 0 _ _ _ ?_
  · clear S
    intro i ih ρ d h ⟨hi, dbs, hd, S, r10, r11, r12⟩
    have w : wrapI .i64 ((i : Int) + 1) = ((i + 1 : Nat) : Int) := by rw [wrap64] <;> omega
    by_cases hlt : i < 5
    · obtain ⟨g, a, c, hfi, hr⟩ := hq i hlt
      have Rl := (Rs.gr S.gr).load1 hfi
      have hlt' : (i : Int) < 5 := by omega
      simp only [BS, LB, Nat.reduceLT, Nat.reduceEqDiff, Tryz.FFt5100, r10, r11, r12, hlt', hlt, Rl]
      refine step_newS allocR_new S ?_; clear S; intro h b2 S n_b2
      simp only [BS, LB, Nat.reduceLT, Nat.reduceEqDiff]
      first | refine step_u (store_fl S (i := 0) rfl ?_ ?_ ?_ ono) ?_ | refine step_u (store_fl S (i := 1) rfl ?_ ?_ ?_ ono) ?_ | refine step_u (store_fl S (i := 2) rfl ?_ ?_ ?_ ono) ?_ | refine step_u (store_fl S (i := 3) rfl ?_ ?_ ?_ ono) ?_ | refine step_u (store_fl S (i := 4) rfl ?_ ?_ ?_ ono) ?_ | refine step_u (store_fl S (i := 5) rfl ?_ ?_ ?_ ono) ?_ | refine step_u (store_fl S (i := 6) rfl ?_ ?_ ?_ ono) ?_ | refine step_u (store_fl S (i := 7) rfl ?_ ?_ ?_ ono) ?_
      · exact (by simp only [Tryz.FFt5100])
      · exact (by first | exact fl_int | exact fl_slice | exact fl_ptr | exact fl_bool | exact fl_map | exact fl_func | exact fl_nili | exact fl_iface | exact fl_nilf | exact fl_str | assumption)
      · exact Nat.lt_of_succ_le (lbt rfl)
      clear S; rintro h ⟨S, mo⟩; clear mo; simp only [List.set_cons_zero, List.set_cons_succ, vcells, lay, List.take, List.drop, List.nil_append, List.cons_append, List.append_nil, List.length_cons, List.length_nil, Nat.reduceAdd, Nat.add_zero] at S
      simp only [BS, LB, Nat.reduceLT, Nat.reduceEqDiff]
      replace S := S.drop1
      have kl : ∀ b ∈ keys (dfrL dbs) [], b < h.n := fun b hb => S.key_lt hb
      refine step_ret (hr _ S.gr) ?_; intro v h ⟨g, gi, a2, post, ps, D, e, it, hps, hD⟩; replace S := S.call g; clear g
      subst e
      simp only [BS]
      refine run_range S (g := gi) (a := a2) (b := post) (by simp [ll_tmp, setR]) rfl rfl ?_
      intro h2 db lb S' hdb hlb g2
      obtain ⟨X, hX, S'⟩ : ∃ X : ALoop, X = _ ∧ St NoM h1 h2 ((lb, .loop X) :: (db, .dfr) :: dfrL dbs) [] := ⟨_, rfl, S'⟩
      have hJ : Yld Tryz.abEnv lb (fun _ h' F => St NoM h1 h' ((lb, .loop X) :: (db, .dfr) :: dfrL dbs) [] ∧ F = keys ((lb, .loop X) :: (db, .dfr) :: dfrL dbs) []) (fun _ _ => False) (ps.map fun p => [.agg ⟨encP p⟩]) := by
        refine ⟨?_, ?_, fun _ _ h => h.elim, ?_⟩
        · rintro i h F ⟨S, rfl⟩; exact ⟨S.ok, fun b hb => S.key_lt hb⟩
        · rintro i h F h' ⟨S, rfl⟩ g; exact ⟨S.call g, rfl⟩
        · rintro i x h F hx ⟨S, rfl⟩
          obtain ⟨p, hp, rfl⟩ : ∃ p ∈ ps, x = [.agg ⟨encP p⟩] := by
            rw [List.getElem?_map, Option.map_eq_some_iff] at hx
            obtain ⟨p, h1, h2⟩ := hx
            exact ⟨p, List.mem_of_getElem? h1, h2.symm⟩
          obtain ⟨p1, p2⟩ := hps p hp
          have p1' : ¬ p.n < p.lo := by omega
          have p2' : ¬ p.hi ≤ p.n := by omega
          subst hX
          refine round_run (S.get m0) (by rw [Tryz.e100]; rfl) rfl ?_
          have S0 := S
          replace S := S.base
          simp only [BS, Tryz.FFt5100]
          refine step_newS allocR_new S ?_; clear S; intro h b4 S n_b4
          simp only [BS, LB, Nat.reduceLT, Nat.reduceEqDiff, encP]
          first | refine step_u (S.store (i := 0) rfl ?_ ?_ rfl rfl ?_ ono) ?_ | refine step_u (S.store (i := 1) rfl ?_ ?_ rfl rfl ?_ ono) ?_ | refine step_u (S.store (i := 2) rfl ?_ ?_ rfl rfl ?_ ono) ?_ | refine step_u (S.store (i := 3) rfl ?_ ?_ rfl rfl ?_ ono) ?_ | refine step_u (S.store (i := 4) rfl ?_ ?_ rfl rfl ?_ ono) ?_ | refine step_u (S.store (i := 5) rfl ?_ ?_ rfl rfl ?_ ono) ?_ | refine step_u (S.store (i := 6) rfl ?_ ?_ rfl rfl ?_ ono) ?_ | refine step_u (S.store (i := 7) rfl ?_ ?_ rfl rfl ?_ ono) ?_
          · exact (by first | exact Tryz.s7 | exact Tryz.s8 | exact Tryz.s19 | exact Tryz.s27 | exact Tryz.s51 | exact Tryz.s118 | exact Tryz.s155 | exact Tryz.s190 | exact Tryz.s248)
          · exact (by intro x e; cases e)
          · exact lbt rfl
          clear S; rintro h ⟨S, mo⟩; clear mo; simp only [List.set_cons_zero, List.set_cons_succ, vcells, lay, List.take, List.drop, List.nil_append, List.cons_append, List.append_nil, List.length_cons, List.length_nil, Nat.reduceAdd, Nat.add_zero] at S
          simp only [BS]
          refine assign_end S (i := 1) rfl rfl rfl rfl rfl ?_
          clear S; intro h S
          simp only [BS, LB, Nat.reduceLT, Nat.reduceEqDiff, Tryz.FFt5100, p1', p2', S.ld (b := b4) (o := 3) (by repeat constructor) rfl, S.ld (b := b4) (o := 4) (by repeat constructor) rfl, S.ld (b := b4) (o := 5) (by repeat constructor) rfl]
          refine round_normal S (i := 1) rfl ?_
          clear S; intro h S
          exact .inl ⟨rfl, _, ⟨S0.rebase S.drop1, rfl⟩, S.fr, S.drop1.key_new⟩
      refine callq_mono (iter_use it hJ (h := h2) (F := keys ((lb, .loop _) :: (db, .dfr) :: dfrL dbs) []) g2.fr (fun b hb hlt => ?_) ⟨S', rfl⟩) fun o rc h' y => range_all y ?_
      · intro hd
        have hS := S'.key_own hb
        rcases hD b hd with hh | hh
        · rcases hS with hS | hS
          · omega
          · exact hS
        · rcases List.mem_cons.1 hb with rfl | hb
          · omega
          · rcases List.mem_cons.1 hb with rfl | hb
            · omega
            · have := kl b hb; omega
      · rintro F ⟨S, rfl⟩
        subst hX
        refine ⟨_, S.get m0, Nat.zero_ne_one, ?_⟩
        replace S := S.dead
        show Run _ _ _ _ _ _ _ _
        simp only [BS, LB, Nat.reduceLT, Nat.reduceEqDiff, r12, w]
        exact ih (i + 1) _ _ _ (by omega) ⟨by omega, db :: dbs, by rw [hd]; rfl, S, by simp [setR, r10], by simp [setR, r11], by simp [setR]⟩
    · have hlt' : ¬ (i : Int) < 5 := by omega
      simp only [BS, LB, Nat.reduceLT, r11, r12, hlt']
      subst hd
      refine leave_genN (un_dfrs dbs h (L := []) (by rw [List.append_nil]; exact S) fun h' S' => ⟨rfl, _, rfl, g0.trans S'.gr⟩)
  · exact ⟨by omega, [], rfl, S, by simp [setR], by simp [setR], by simp [setR]⟩
end Go.Ab

end
section
namespace Go.Ab
open Go.Proofs
set_option maxRecDepth 10000
open Tryz in
def Tryz.FFt699 := aj a1 <| aj s1 <| aj z1 <| aj n1 <| aj u2 <| aj a2 <| aj s2 <| aj z2 <| aj i2 <| aj u3 <| aj a3 <| aj s3 <| aj z3 <| aj i3 <| aj u4 <| aj a4 <| aj s4 <| aj z4 <| aj n4 <| aj u5 <| aj a5 <| aj s5 <| aj z5 <| aj i5 <| aj a20 <| aj s20 <| aj z20 <| aj q20 <| aj n20 <| aj a75 <| aj s75 <| aj z75 <| aj q75 <| aj n75 <| aj a118 <| aj s118 <| aj z118 <| aj i118 <| aj n118 <| aj p118 <| aj ff118 <| aj d118 <| aj u120 <| aj a120 <| aj s120 <| aj z120 <| aj q120 <| aj i120 <| aj n120 <| aj a155 <| aj s155 <| aj z155 <| aj i155 <| aj n155 <| aj p155 <| aj ff155 <| d155
open Tryz in
def Tryz.FFt673 := aj a1 <| aj s1 <| aj z1 <| aj n1 <| aj u2 <| aj a2 <| aj s2 <| aj z2 <| aj i2 <| aj u3 <| aj a3 <| aj s3 <| aj z3 <| aj i3 <| aj u24 <| aj a24 <| aj s24 <| aj z24 <| aj q24 <| aj n24 <| aj u25 <| aj a25 <| aj s25 <| aj z25 <| aj q25 <| aj n25 <| aj a27 <| aj s27 <| aj z27 <| aj i27 <| aj n27 <| aj p27 <| aj ff27 <| aj d27 <| aj a51 <| aj s51 <| aj z51 <| aj i51 <| aj n51 <| aj p51 <| aj ff51 <| aj d51 <| aj a75 <| aj s75 <| aj z75 <| aj q75 <| n75
open Tryz in
def Tryz.FFt691 := aj a1 <| aj s1 <| aj z1 <| aj n1 <| aj u2 <| aj a2 <| aj s2 <| aj z2 <| aj i2 <| aj u3 <| aj a3 <| aj s3 <| aj z3 <| aj i3 <| aj u4 <| aj a4 <| aj s4 <| aj z4 <| aj n4 <| aj u24 <| aj a24 <| aj s24 <| aj z24 <| aj q24 <| n24
open Tryz in
def Tryz.FFt6105 := aj a1 <| aj s1 <| aj z1 <| aj n1 <| aj u2 <| aj a2 <| aj s2 <| aj z2 <| aj i2 <| aj u3 <| aj a3 <| aj s3 <| aj z3 <| aj i3 <| aj u4 <| aj a4 <| aj s4 <| aj z4 <| aj n4 <| aj u25 <| aj a25 <| aj s25 <| aj z25 <| aj q25 <| aj n25 <| aj a51 <| aj s51 <| aj z51 <| aj i51 <| aj n51 <| aj p51 <| aj ff51 <| d51
theorem check1_ok {h0 : Hp} (ok : h0.t.Sized h0.n) {b : Nat} : CallQ Tryz.abEnv 99 [ptrTo b] none h0 fun o rc h' => (∃ v, o = .ret v) ∧ rc = none ∧ Gr h0 h' := by
  have S := St.init (M := NoM) ok
  refine enter (n := 17) (rs := []) rfl Tryz.e99 rfl rfl rfl (lbt rfl) ?_
  simp only [BS, LB, Nat.reduceLT, Nat.reduceEqDiff, Tryz.FFt699]
  exact leave_genN (un_nil ⟨rfl, _, rfl, ⟨_, rfl⟩, rfl, S.gr⟩)
theorem check_ok {h0 : Hp} (ok : h0.t.Sized h0.n) {γ : Gra} (hγ : Good γ) {vx vy va : Value} (ga : GraphAt h0 vx vy va γ) : Pure Tryz.abEnv 73 [rawV γ vx vy va] h0 .nilIface := by
  have S := St.init (M := NoM) ok
  refine enter_ret (n := 6) (rs := [.cell 2 75]) rfl Tryz.e73 rfl rfl rfl (lbt rfl) ?_
  simp only [BS, Nat.reduceLT, rawV]
  refine step_newS (box_new (by intro x e; cases e)) S ?_; clear S; intro h b S n_b; simp only [vcells] at S
  simp only [BS, Tryz.FFt673]
  refine step_newS allocR_new S ?_; clear S; intro h b2 S n_b2
  simp only [BS, LB, Nat.reduceLT, Nat.reduceEqDiff, Tryz.FFt673, S.lds (b := b) (o := 0) (n := 4) (by repeat constructor) (lbt rfl)]
  refine step_ret (look_ok S.ok hγ (ga.gr S.gr)) ?_; intro v h g; replace S := S.call g; clear g
  simp only [BS, LB, Nat.reduceLT, Nat.reduceEqDiff]
  first | refine step_u (store_fl S (i := 0) rfl ?_ ?_ ?_ ono) ?_ | refine step_u (store_fl S (i := 1) rfl ?_ ?_ ?_ ono) ?_ | refine step_u (store_fl S (i := 2) rfl ?_ ?_ ?_ ono) ?_ | refine step_u (store_fl S (i := 3) rfl ?_ ?_ ?_ ono) ?_ | refine step_u (store_fl S (i := 4) rfl ?_ ?_ ?_ ono) ?_ | refine step_u (store_fl S (i := 5) rfl ?_ ?_ ?_ ono) ?_ | refine step_u (store_fl S (i := 6) rfl ?_ ?_ ?_ ono) ?_ | refine step_u (store_fl S (i := 7) rfl ?_ ?_ ?_ ono) ?_
  · exact (by simp only [Tryz.FFt673])
  · exact (by first | exact fl_int | exact fl_slice | exact fl_ptr | exact fl_bool | exact fl_map | exact fl_func | exact fl_nili | exact fl_iface | exact fl_nilf | exact fl_str | assumption)
  · exact Nat.lt_of_succ_le (lbt rfl)
  clear S; rintro h ⟨S, mo⟩; clear mo; simp only [List.set_cons_zero, List.set_cons_succ, vcells, lay, List.take, List.drop, List.nil_append, List.cons_append, List.append_nil, List.length_cons, List.length_nil, Nat.reduceAdd, Nat.add_zero] at S
  simp only [BS]
  refine leave_gen (un_fn (callq_mono (check1_ok S.ok) fun o rc h' ⟨a, b, g⟩ => ⟨a, b, un_nil ⟨rfl, ?_⟩⟩))
  replace S := S.call g
  have l := S.ld (b := b2) (o := 0) m0 rfl
  exact ⟨_, rr_cell (by decide) (by simp only [setR_at, ptr_eq, Nat.reduceEqDiff, reduceIte]; exact loadV_cell Tryz.a75 l), rfl, S.gr⟩
theorem clone64_ok {h0 : Hp} (ok : h0.t.Sized h0.n) {v : Value} {xs : List Int} (hs : SlAt h0 1 (encI .i64) v xs) (hl : xs.length < 1000000) : Ret Tryz.abEnv 91 [v] h0 fun r h' => Gr h0 h' ∧ SlAt h' 1 (encI .i64) r xs ∧ ∀ c, blkOf r c → h0.n ≤ c := by
  have S := St.init (M := NoM) ok
  rcases hs with ⟨rfl, rfl⟩ | ⟨b, o, s, c, rfl, h2, h3⟩
  · refine enter_ret (n := 8) (rs := [.tmp 2]) rfl Tryz.e91 rfl rfl rfl (lbt rfl) ?_
    simp only [BS, LB, tupleOf, Nat.reduceLT, Nat.reduceEqDiff, Tryz.FFt691]
    exact ⟨S.gr, .inl ⟨rfl, rfl⟩, fun c hc => hc.elim⟩
  · refine enter_ret (n := 8) (rs := [.tmp 2]) rfl Tryz.e91 rfl rfl rfl (lbt rfl) ?_
    simp only [BS, LB, Nat.reduceLT, Nat.reduceEqDiff, Tryz.FFt691]
    refine step_newS (bs_new (by first | exact Tryz.u24) (by first | exact Tryz.e2E) (by decide) (by first | rfl | exact fillE )) S ?_; clear S; intro h bb S n_bb; simp only [repL, setL, vcells, List.cons_append, List.nil_append, List.append_nil, List.set_cons_zero, List.set_cons_succ, Nat.reduceMul, Nat.reduceAdd, Nat.zero_mul, Nat.zero_add, Nat.mul_one, Nat.one_mul] at S
    simp only [BS, LB, Nat.reduceLT, Nat.reduceEqDiff]
    refine step_v (S.cloneSl (enc := encI .i64) (xs := []) Tryz.u24 Tryz.e2E (by decide) Tryz.n24 (.inr ⟨b, o, s, c, rfl, h2, S.old h3 (fun h => h)⟩) (fun x => rfl) (by decide) (by simp only [List.length_nil, Nat.zero_add]; omega) (S.row m0)) ?_
    rintro h' v ⟨S', g, sl, hc⟩
    simp only [BS, LB, tupleOf, Nat.reduceLT, Nat.reduceEqDiff]
    refine ⟨S'.gr, by simpa using sl, fun c h => (hc c h).elim (fun e => by omega) (fun e => Nat.le_trans S.fr.n e)⟩
theorem cloneArc_ok {h0 : Hp} (ok : h0.t.Sized h0.n) {v : Value} {xs : List Arc} (hs : SlAt h0 3 (encA) v xs) (hl : xs.length < 1000000) : Ret Tryz.abEnv 105 [v] h0 fun r h' => Gr h0 h' ∧ SlAt h' 3 (encA) r xs ∧ ∀ c, blkOf r c → h0.n ≤ c := by
  have S := St.init (M := NoM) ok
  rcases hs with ⟨rfl, rfl⟩ | ⟨b, o, s, c, rfl, h2, h3⟩
  · refine enter_ret (n := 8) (rs := [.tmp 2]) rfl Tryz.e105 rfl rfl rfl (lbt rfl) ?_
    simp only [BS, LB, tupleOf, Nat.reduceLT, Nat.reduceEqDiff, Tryz.FFt6105]
    exact ⟨S.gr, .inl ⟨rfl, rfl⟩, fun c hc => hc.elim⟩
  · refine enter_ret (n := 8) (rs := [.tmp 2]) rfl Tryz.e105 rfl rfl rfl (lbt rfl) ?_
    simp only [BS, LB, Nat.reduceLT, Nat.reduceEqDiff, Tryz.FFt6105]
    refine step_newS (bs_new (by first | exact Tryz.u25) (by first | exact Tryz.e51E) (by decide) (by first | rfl | exact fillE )) S ?_; clear S; intro h bb S n_bb; simp only [repL, setL, vcells, List.cons_append, List.nil_append, List.append_nil, List.set_cons_zero, List.set_cons_succ, Nat.reduceMul, Nat.reduceAdd, Nat.zero_mul, Nat.zero_add, Nat.mul_one, Nat.one_mul] at S
    simp only [BS, LB, Nat.reduceLT, Nat.reduceEqDiff]
    refine step_v (S.cloneSl (enc := encA) (xs := []) Tryz.u25 Tryz.e51E (by decide) Tryz.n25 (.inr ⟨b, o, s, c, rfl, h2, S.old h3 (fun h => h)⟩) (fun x => rfl) (by decide) (by simp only [List.length_nil, Nat.zero_add]; omega) (S.row m0)) ?_
    rintro h' v ⟨S', g, sl, hc⟩
    simp only [BS, LB, tupleOf, Nat.reduceLT, Nat.reduceEqDiff]
    refine ⟨S'.gr, by simpa using sl, fun c h => (hc c h).elim (fun e => by omega) (fun e => Nat.le_trans S.fr.n e)⟩
end Go.Ab

end
section
namespace Go.Ab
open Go.Proofs
set_option maxRecDepth 10000
open Tryz in
def Tryz.FFt771 := aj a1 <| aj s1 <| aj z1 <| aj n1 <| aj u2 <| aj a2 <| aj s2 <| aj z2 <| aj i2 <| aj u3 <| aj a3 <| aj s3 <| aj z3 <| aj i3 <| aj u4 <| aj a4 <| aj s4 <| aj z4 <| aj n4 <| aj u5 <| aj a5 <| aj s5 <| aj z5 <| aj i5 <| aj u22 <| aj a22 <| aj s22 <| aj z22 <| aj q22 <| aj n22 <| aj u70 <| aj a70 <| aj s70 <| aj z70 <| aj q70 <| aj i70 <| aj n70 <| aj a72 <| aj s72 <| aj z72 <| aj i72 <| aj n72 <| aj p72 <| aj ff72 <| d72
structure DrAt (h : Hp) (bd : Nat) (vB : Value) (xs : List Int) (a : Nat) : Prop where
  sl : SlAt h 1 (encI .u8) vB xs
  ne : ¬ blkOf vB bd
  few : xs.length < 1000000
  at_ : a < 100000
theorem next_ok {h0 : Hp} (ok : h0.t.Sized h0.n) {bd a n : Nat} {vB : Value} {xs : List Int} (hr : Row h0 bd [vB, .int .i64 a] 1) (hd : DrAt h0 bd vB xs a) (hn : 1 ≤ n) (hn2 : n < 1000) :
    Ret Tryz.abEnv 71 [ptrTo bd, .int .i64 n] h0 fun v h' => Mo (· = bd) h0 h' ∧ ∃ r a' : Nat, v = .int .i64 r ∧ r < n ∧ a' ≤ a + 1 ∧ Row h' bd [vB, .int .i64 a'] 1 := by
  have S := St.init1 ok (o := .row [vB, .int .i64 a] 1) hr
  obtain ⟨hs, hne, hx, ha⟩ := hd
  have fl := hs.fl
  have w1 : wrapI .i64 ((a : Int) + 1) = ((a + 1 : Nat) : Int) := by rw [wrap64] <;> omega
  have w2 : wrapI .i64 (((a + 1 : Nat) : Int) - 1) = (a : Int) := by rw [wrap64] <;> omega
  have c1 : ¬ (n : Int) < 1 := by omega
  by_cases h0' : xs.length = 0
  · have c0 : (xs.length : Int) = 0 := by omega
    refine enter_ret (n := 55) (rs := [.tmp 4]) rfl Tryz.e71 rfl rfl rfl (lbt rfl) ?_
    simp only [BS, LB, tupleOf, Nat.reduceLT, Nat.reduceEqDiff, Tryz.FFt771, hs.lenq, c0, S.ld (b := bd) (o := 0) (by repeat constructor) rfl]
    exact ⟨S.fr, 0, a, rfl, by omega, by omega, S.row m0⟩
  · have c0 : ¬ (xs.length : Int) = 0 := by omega
    have hmod : a % xs.length < xs.length := Nat.mod_lt _ (by omega)
    have tm : (a : Int).tmod (xs.length : Int) = ((a % xs.length : Nat) : Int) := by rw [Int.tmod_eq_emod_of_nonneg (by omega)]; exact (Int.natCast_emod _ _).symm
    refine enter_ret (n := 55) (rs := [.tmp 4]) rfl Tryz.e71 rfl rfl rfl (lbt rfl) ?_
    simp only [BS, LB, Nat.reduceLT, Nat.reduceEqDiff, Tryz.FFt771, hs.lenq, c0, c1, w1, S.ld (b := bd) (o := 0) (by repeat constructor) rfl, S.ld (b := bd) (o := 1) (by repeat constructor) rfl]
    first | refine step_u (store_fl S (i := 0) rfl ?_ ?_ ?_ ono) ?_ | refine step_u (store_fl S (i := 1) rfl ?_ ?_ ?_ ono) ?_ | refine step_u (store_fl S (i := 2) rfl ?_ ?_ ?_ ono) ?_ | refine step_u (store_fl S (i := 3) rfl ?_ ?_ ?_ ono) ?_ | refine step_u (store_fl S (i := 4) rfl ?_ ?_ ?_ ono) ?_ | refine step_u (store_fl S (i := 5) rfl ?_ ?_ ?_ ono) ?_ | refine step_u (store_fl S (i := 6) rfl ?_ ?_ ?_ ono) ?_ | refine step_u (store_fl S (i := 7) rfl ?_ ?_ ?_ ono) ?_
    · exact (by simp only [Tryz.FFt771])
    · exact (by first | exact fl_int | exact fl_slice | exact fl_ptr | exact fl_bool | exact fl_map | exact fl_func | exact fl_nili | exact fl_iface | exact fl_nilf | exact fl_str | assumption)
    · exact Nat.lt_of_succ_le (lbt rfl)
    clear S; rintro h ⟨S, mo⟩; clear mo; simp only [List.set_cons_zero, List.set_cons_succ, vcells, lay, List.take, List.drop, List.nil_append, List.cons_append, List.append_nil, List.length_cons, List.length_nil, Nat.reduceAdd, Nat.add_zero] at S
    have hs' : SlAt h 1 (encI .u8) vB xs := hs.mo S.fr (fun b hb e => hne (e ▸ hb))
    obtain ⟨c, o, hidx, hld⟩ := hs'.ix (kd := .i64) (encI_len _) hmod
    have cz : (xs.length : Int) ≠ 0 := c0
    have cn : (n : Int) ≠ 0 := by omega
    simp only [BS]
    refine draw_step (hoist_no rfl) (q := 0) (ps := []) (by kernel_rfl) ?_
    simp only [BS, LB, convV, convKind, convP, cls, tupleOf, Nat.reduceLT, Nat.reduceEqDiff, Nat.reduceAdd, Nat.reducePow, Nat.reduceDiv, Nat.reduceMod, Nat.reduceLeDiff, Tryz.FFt771, hs'.lenq, w2, b_rem cz, b_quo cz, b_rem cn, tm, hidx, hld, encI, S.ld (b := bd) (o := 0) (by repeat constructor) rfl, S.ld (b := bd) (o := 1) (by repeat constructor) rfl]
    have key : ∀ z : Int, ∃ r : Nat, (wrapI .i64 (wrapI .u8 z)).tmod (n : Int) = (r : Int) ∧ r < n := by
      intro z
      have h8 := wrap8 z
      rw [wrap64 (by omega) (by omega), Int.tmod_eq_emod_of_nonneg (by omega)]
      have h1 := Int.emod_nonneg (wrapI .u8 z) cn
      have h2 := Int.emod_lt_of_pos (wrapI .u8 z) (show (0 : Int) < n by omega)
      exact ⟨(wrapI .u8 z % n).toNat, by omega, by omega⟩
    obtain ⟨r, e, hr⟩ := key _
    rw [e]
    exact ⟨S.fr, r, a + 1, rfl, hr, Nat.le_refl _, S.row m0⟩
theorem DrAt.mo {h h' : Hp} {bd : Nat} {vB : Value} {xs : List Int} {a a' : Nat} (d : DrAt h bd vB xs a) (f : Mo (· = bd) h h') (ha : a' < 100000) : DrAt h' bd vB xs a' :=
  ⟨d.sl.mo f (fun b hb e => d.ne (e ▸ hb)), d.ne, d.few, ha⟩
theorem DrAt.gr {h h' : Hp} {bd : Nat} {vB : Value} {xs : List Int} {a : Nat} (d : DrAt h bd vB xs a) (g : Gr h h') : DrAt h' bd vB xs a := ⟨d.sl.gr g, d.ne, d.few, d.at_⟩
theorem weight_ok {h0 : Hp} (ok : h0.t.Sized h0.n) {bd a : Nat} {vB : Value} {xs : List Int} (hr : Row h0 bd [vB, .int .i64 a] 1) (hd : DrAt h0 bd vB xs a) (ha : a + 2 < 100000) :
    Ret Tryz.abEnv 72 [ptrTo bd] h0 fun v h' => Mo (· = bd) h0 h' ∧ ∃ r a' : Nat, v = .int .i64 r ∧ r ≤ 2147483647 ∧ a' ≤ a + 2 ∧ Row h' bd [vB, .int .i64 a'] 1 := by
  have S := St.init1 ok (o := .row [vB, .int .i64 a] 1) hr
  refine enter_ret (n := 24) (rs := [.tmp 2]) rfl Tryz.e72 rfl rfl rfl (lbt rfl) ?_
  simp only [BS, LB, Nat.reduceLT, Nat.reduceEqDiff]
  refine step_ret (next_ok (n := 12) S.ok (S.row m0) hd (by omega) (by omega)) ?_
  rintro v h ⟨f, r, a1, rfl, hr1, ha1, R1⟩
  replace S := S.call1 (i := 0) rfl f (o' := .row _ _) R1
  have hd1 : DrAt h bd vB xs a1 := hd.mo f (by omega)
  simp only [List.set_cons_zero] at S
  by_cases c1 : (r : Int) < 3
  · simp only [BS, LB, tupleOf, Nat.reduceLT, Nat.reduceEqDiff, c1]
    exact ⟨S.fr, 0, a1, rfl, by omega, by omega, S.row m0⟩
  · by_cases c2 : (r : Int) < 10
    · simp only [BS, LB, Nat.reduceLT, Nat.reduceEqDiff, c1, c2]
      refine step_ret (next_ok (n := 9) S.ok (S.row m0) hd1 (by omega) (by omega)) ?_
      rintro v h ⟨f, r2, a2, rfl, hr2, ha2, R2⟩
      replace S := S.call1 (i := 0) rfl f (o' := .row _ _) R2
      simp only [List.set_cons_zero] at S
      have w1 : wrapI .i64 (1 + (r2 : Int)) = ((1 + r2 : Nat) : Int) := by rw [wrap64] <;> omega
      simp only [BS, LB, tupleOf, Nat.reduceLT, Nat.reduceEqDiff, w1]
      exact ⟨S.fr, 1 + r2, a2, rfl, by omega, by omega, S.row m0⟩
    · by_cases c3 : (r : Int) < 11
      · simp only [BS, LB, Nat.reduceLT, Nat.reduceEqDiff, c1, c2, c3]
        refine step_ret (next_ok (n := 20) S.ok (S.row m0) hd1 (by omega) (by omega)) ?_
        rintro v h ⟨f, r2, a2, rfl, hr2, ha2, R2⟩
        replace S := S.call1 (i := 0) rfl f (o' := .row _ _) R2
        simp only [List.set_cons_zero] at S
        have w1 : wrapI .i64 (100 * (r2 : Int)) = ((100 * r2 : Nat) : Int) := by rw [wrap64] <;> omega
        simp only [BS, LB, tupleOf, Nat.reduceLT, Nat.reduceEqDiff, w1]
        exact ⟨S.fr, 100 * r2, a2, rfl, by omega, by omega, S.row m0⟩
      · simp only [BS, LB, Nat.reduceLT, Nat.reduceEqDiff, c1, c2, c3]
        refine step_ret (next_ok (n := 2) S.ok (S.row m0) hd1 (by omega) (by omega)) ?_
        rintro v h ⟨f, r2, a2, rfl, hr2, ha2, R2⟩
        replace S := S.call1 (i := 0) rfl f (o' := .row _ _) R2
        simp only [List.set_cons_zero] at S
        have w1 : wrapI .i64 (2147483647 - (r2 : Int)) = ((2147483647 - r2 : Nat) : Int) := by rw [wrap64] <;> omega
        simp only [BS, LB, tupleOf, Nat.reduceLT, Nat.reduceEqDiff, w1]
        exact ⟨S.fr, 2147483647 - r2, a2, rfl, by omega, by omega, S.row m0⟩
end Go.Ab

end
section
namespace Go.Ab
open Go.Proofs
set_option maxRecDepth 10000
open Tryz in
def Tryz.FFt830 := aj a1 <| aj s1 <| aj z1 <| aj n1 <| aj u2 <| aj a2 <| aj s2 <| aj z2 <| aj i2 <| aj u3 <| aj a3 <| aj s3 <| aj z3 <| aj i3 <| aj u4 <| aj a4 <| aj s4 <| aj z4 <| aj n4 <| aj u5 <| aj a5 <| aj s5 <| aj z5 <| aj i5 <| aj u6 <| aj a6 <| aj s6 <| aj z6 <| aj i6 <| aj a7 <| aj s7 <| aj z7 <| aj i7 <| aj n7 <| aj p7 <| aj ff7 <| aj d7 <| aj a8 <| aj s8 <| aj z8 <| aj i8 <| aj n8 <| aj p8 <| aj ff8 <| aj d8 <| aj u9 <| aj a9 <| aj s9 <| aj z9 <| aj n9 <| aj u10 <| aj a10 <| aj s10 <| aj z10 <| aj n10 <| aj u11 <| aj a11 <| aj s11 <| aj z11 <| aj n11 <| aj u12 <| aj a12 <| aj s12 <| aj z12 <| aj i12 <| aj a13 <| aj s13 <| aj z13 <| aj i13 <| aj n13 <| aj p13 <| aj ff13 <| aj d13 <| aj a14 <| aj s14 <| aj z14 <| aj i14 <| aj n14 <| aj p14 <| aj ff14 <| aj d14 <| aj u15 <| aj a15 <| aj s15 <| aj z15 <| aj q15 <| aj i15 <| aj n15 <| aj u16 <| aj a16 <| aj s16 <| aj z16 <| aj q16 <| aj i16 <| aj n16 <| aj u17 <| aj a17 <| aj s17 <| aj z17 <| aj q17 <| aj i17 <| aj n17 <| aj a18 <| aj s18 <| aj z18 <| aj i18 <| aj n18 <| aj p18 <| aj ff18 <| aj d18 <| aj a19 <| aj s19 <| aj z19 <| aj i19 <| aj n19 <| aj p19 <| aj ff19 <| aj d19 <| aj a20 <| aj s20 <| aj z20 <| aj q20 <| aj n20 <| aj u21 <| aj a21 <| aj s21 <| aj z21 <| aj i21 <| aj u22 <| aj a22 <| aj s22 <| aj z22 <| aj q22 <| aj n22 <| aj u23 <| aj a23 <| aj s23 <| aj z23 <| aj q23 <| aj n23 <| aj u24 <| aj a24 <| aj s24 <| aj z24 <| aj q24 <| aj n24 <| aj u25 <| aj a25 <| aj s25 <| aj z25 <| aj q25 <| aj n25 <| aj a27 <| aj s27 <| aj z27 <| aj i27 <| aj n27 <| aj p27 <| aj ff27 <| aj d27 <| aj u41 <| aj a41 <| aj s41 <| aj z41 <| aj i41 <| aj a51 <| aj s51 <| aj z51 <| aj i51 <| aj n51 <| aj p51 <| aj ff51 <| aj d51 <| aj u70 <| aj a70 <| aj s70 <| aj z70 <| aj q70 <| aj i70 <| aj n70 <| aj a72 <| aj s72 <| aj z72 <| aj i72 <| aj n72 <| aj p72 <| aj ff72 <| aj d72 <| aj u199 <| aj a199 <| aj s199 <| aj z199 <| aj i199 <| aj u203 <| aj a203 <| aj s203 <| aj z203 <| aj i203 <| aj a237 <| aj s237 <| aj z237 <| aj i237 <| aj n237 <| aj p237 <| aj ff237 <| aj d237 <| aj u238 <| aj a238 <| aj s238 <| aj z238 <| aj n238 <| aj a240 <| aj s240 <| aj z240 <| aj i240 <| aj n240 <| aj u242 <| aj a242 <| aj s242 <| aj z242 <| aj i242 <| aj a243 <| aj s243 <| aj z243 <| aj n243 <| aj u244 <| aj a244 <| aj s244 <| aj z244 <| aj q244 <| aj i244 <| aj n244 <| aj u245 <| aj a245 <| aj s245 <| aj z245 <| aj i245 <| aj u246 <| aj a246 <| aj s246 <| aj z246 <| aj i246 <| aj a248 <| aj s248 <| aj z248 <| aj i248 <| aj n248 <| aj p248 <| aj ff248 <| d248
def ints (l : List Int) : List Value := l.flatMap (encI .i64)
theorem ints_len (l : List Int) : (ints l).length = l.length := by unfold ints; rw [flatMap_len (k := 1) (fun _ => rfl)]; omega
theorem ints_app (l m : List Int) : ints (l ++ m) = ints l ++ ints m := by unfold ints; rw [List.flatMap_append]
theorem raw_ok {h0 : Hp} (ok : h0.t.Sized h0.n) {bd : Nat} {vB : Value} {xs : List Int} (hr : Row h0 bd [vB, .int .i64 ((0 : Nat) : Int)] 1) (hd : DrAt h0 bd vB xs 0) :
    Ret Tryz.abEnv 30 [ptrTo bd] h0 fun v h' => Mo (· = bd) h0 h' ∧ ∃ γ vx vy va, v = rawV γ vx vy va ∧ Good γ ∧ GraphAt h' vx vy va γ ∧ ∀ c, (blkOf vx c ∨ blkOf vy c ∨ blkOf va c) → h0.n ≤ c := by
  have S := St.init1 ok (o := .row [vB, .int .i64 ((0 : Nat) : Int)] 1) hr
  have lt0 := hr.lt ok
  refine enter_ret (n := 117) (rs := [.cell 2 27]) rfl Tryz.e30 rfl rfl rfl (lbt rfl) ?_
  simp only [BS, Tryz.FFt830]
  refine step_newS allocR_new S ?_; clear S; intro h b2 S n_b2
  simp only [BS, LB, Nat.reduceLT, Nat.reduceEqDiff]
  refine step_ret (next_ok (n := 12) (a := 0) S.ok (S.row m1) (hd.mo S.fr (by omega)) (by omega) (by omega)) ?_
  rintro v h ⟨f, r0, a0, rfl, hr0, ha0, R⟩
  replace S := S.call1 (i := 1) rfl f (o' := .row _ _) R
  simp only [List.set_cons_zero, List.set_cons_succ] at S
  have w1 : wrapI .i64 (1 + (r0 : Int)) = ((1 + r0 : Nat) : Int) := by rw [wrap64] <;> omega
  simp only [BS, LB, Nat.reduceLT, Nat.reduceEqDiff, Nat.reduceAdd, Tryz.FFt830, w1]
  refine step_newS allocR_new S ?_; clear S; intro h b3 S n_b3
  simp only [BS, LB, Nat.reduceLT, Nat.reduceEqDiff]
  first | refine step_u (S.store (i := 0) rfl ?_ ?_ rfl rfl ?_ ono) ?_ | refine step_u (S.store (i := 1) rfl ?_ ?_ rfl rfl ?_ ono) ?_ | refine step_u (S.store (i := 2) rfl ?_ ?_ rfl rfl ?_ ono) ?_ | refine step_u (S.store (i := 3) rfl ?_ ?_ rfl rfl ?_ ono) ?_ | refine step_u (S.store (i := 4) rfl ?_ ?_ rfl rfl ?_ ono) ?_ | refine step_u (S.store (i := 5) rfl ?_ ?_ rfl rfl ?_ ono) ?_ | refine step_u (S.store (i := 6) rfl ?_ ?_ rfl rfl ?_ ono) ?_ | refine step_u (S.store (i := 7) rfl ?_ ?_ rfl rfl ?_ ono) ?_
  · exact (by first | exact Tryz.s7 | exact Tryz.s8 | exact Tryz.s13 | exact Tryz.s14 | exact Tryz.s18 | exact Tryz.s19 | exact Tryz.s27 | exact Tryz.s51 | exact Tryz.s72 | exact Tryz.s237 | exact Tryz.s238 | exact Tryz.s240 | exact Tryz.s248)
  · exact (by intro x e; cases e)
  · exact lbt rfl
  clear S; rintro h ⟨S, mo⟩; clear mo; simp only [List.set_cons_zero, List.set_cons_succ, vcells, lay, List.take, List.drop, List.nil_append, List.cons_append, List.append_nil, List.length_cons, List.length_nil, Nat.reduceAdd, Nat.add_zero] at S
  simp only [BS]
  replace S := ((S.nilG (k := 3)).nilG (k := 1)).nilG (k := 1)
  generalize hN : 1 + r0 = N at S
  refine loop_ind (fun (i : Nat) ρ h => i ≤ N ∧ ∃ (a : Nat) (vX vY : Value) (X Y : List Int), a ≤ 1 + 2 * i ∧ X.length = i ∧ Y.length = i ∧ (∀ x ∈ X, -2147483648 ≤ x ∧ x ≤ 2147483647) ∧ (∀ x ∈ Y, -2147483648 ≤ x ∧ x ≤ 2147483647) ∧
      St (· = bd) h0 h [(b3, .row [.int .i64 N, vX, vY, .slice none 0 0] 1), (b2, .row [.int .i64 0, .slice none 0 0, .slice none 0 0, .slice none 0 0] 1), (bd, .row [vB, .int .i64 a] 1)] [(vX, 1, ints X), (vY, 1, ints Y), (.slice none 0 0, 3, [])] ∧
      ρ 0 = ptrTo bd ∧ ρ 2 = ptrTo b2 ∧ ρ 3 = ptrTo b3 ∧ ρ 4 = .int .i64 i) (fun i => N - i) ?_ 0 _ _ ?_
  · clear S
    intro i ih ρ h ⟨hi, a, vX, vY, X, Y, ha, lX, lY, cX, cY, S, r0, r2, r3, r4⟩
    by_cases hlt : i < N
    · simp only [BS, LB, Nat.reduceLT, Nat.reduceEqDiff, Tryz.FFt830, r3, r4, lt_nat, hlt, S.ld (b := b3) (o := 0) (by repeat constructor) rfl]
      refine draw_step (hoist_no rfl) (q := 32) (ps := [(1, 3)]) (by kernel_rfl) ?_
      simp only [BS, LB, cls, Nat.reduceLT, Nat.reduceEqDiff, Nat.reduceAdd, Nat.reducePow, Nat.reduceDiv, Nat.reduceMod, Nat.reduceLeDiff, Tryz.FFt830, r0, r3, S.ld (b := b3) (o := 1) (by repeat constructor) rfl]
      refine dn_ret (next_ok (n := 9) (a := a) S.ok (S.row m2) (hd.mo S.fr (by omega)) (by omega) (by omega)) ?_
      rintro v h ⟨f, r1, a1, rfl, hr1, ha1, R⟩
      have hl := S.leaves (c := b3) m0 f (by omega)
      replace S := S.call1 (i := 2) rfl f (o' := .row _ _) R
      simp only [List.set_cons_zero, List.set_cons_succ] at S
      have w9 : wrapI .i64 ((r1 : Int) - 3) = (r1 : Int) - 3 := by rw [wrap64] <;> omega
      simp only [BS, LB, cls, Nat.reduceLT, Nat.reduceEqDiff, Nat.reduceAdd, Nat.reducePow, Nat.reduceDiv, Nat.reduceMod, Nat.reduceLeDiff, w9]
      refine dq_newS (bs_new (by first | exact Tryz.u22 | exact Tryz.u23 | exact Tryz.u24 | exact Tryz.u25) (by first | exact Tryz.e2E | exact Tryz.e5E | exact Tryz.e41E | exact Tryz.e51E) (by decide) (by first | rfl | exact fillE )) S ?_; clear S; intro h bs S n_bs e_bs; simp only [repL, setL, vcells, List.cons_append, List.nil_append, List.append_nil, List.set_cons_zero, List.set_cons_succ, Nat.reduceMul, Nat.reduceAdd, Nat.zero_mul, Nat.zero_add, Nat.mul_one, Nat.one_mul] at S
      simp only [BS, LB, cls, Nat.reduceLT, Nat.reduceEqDiff, Nat.reduceAdd, Nat.reducePow, Nat.reduceDiv, Nat.reduceMod, Nat.reduceLeDiff]
      refine dn_v (S.grow (j := 0) (m := 1) (new := ints [(r1 : Int) - 3]) rfl Tryz.u24 Tryz.e2E (by decide) Tryz.n24 (by simp only [srcCells]; rw [S.lds (b := bs) (o := 0) (n := 1 * 1) m0 (lbt rfl)]; rfl) rfl (by decide) rfl (by rw [ints_len, ints_len]; simp; omega)) ?_
      clear S
      rintro h vX' S
      simp only [List.set_cons_zero] at S
      replace S := S.drop1
      rw [← ints_app] at S
      have fX : Fl vX' := (S.gown _ m0).1.fl
      simp only [BS, LB, cls, Nat.reduceLT, Nat.reduceEqDiff, Nat.reduceAdd, Nat.reducePow, Nat.reduceDiv, Nat.reduceMod, Nat.reduceLeDiff, Tryz.FFt830, r3]
      first | refine dn_u (store_fl S (i := 0) rfl ?_ ?_ ?_ ono) ?_ | refine dn_u (store_fl S (i := 1) rfl ?_ ?_ ?_ ono) ?_ | refine dn_u (store_fl S (i := 2) rfl ?_ ?_ ?_ ono) ?_ | refine dn_u (store_fl S (i := 3) rfl ?_ ?_ ?_ ono) ?_ | refine dn_u (store_fl S (i := 4) rfl ?_ ?_ ?_ ono) ?_ | refine dn_u (store_fl S (i := 5) rfl ?_ ?_ ?_ ono) ?_ | refine dn_u (store_fl S (i := 6) rfl ?_ ?_ ?_ ono) ?_ | refine dn_u (store_fl S (i := 7) rfl ?_ ?_ ?_ ono) ?_
      · exact (by simp only [Tryz.FFt830])
      · exact (by first | exact fl_int | exact fl_slice | exact fl_ptr | exact fl_bool | exact fl_map | exact fl_func | exact fl_nili | exact fl_iface | exact fl_nilf | exact fl_str | assumption)
      · exact Nat.lt_of_succ_le (lbt rfl)
      clear S; rintro h ⟨S, mo⟩; clear mo; simp only [List.set_cons_zero, List.set_cons_succ, vcells, lay, List.take, List.drop, List.nil_append, List.cons_append, List.append_nil, List.length_cons, List.length_nil, Nat.reduceAdd, Nat.add_zero] at S
      simp only [BS, Nat.reduceAdd]
      refine ⟨by simp only [pairs_cons, pairs_nil, entry_noted, entry_hit, entry_miss, ne_eq, not_false_eq_true, note_load, note_run, note_alloc, noted_some, ll_tmp, ll_put, setR_at, Nat.reduceLT, Nat.reduceEqDiff, reduceIte, Bool.and_true, r3, ptr_eq, pair_br hl], ?_⟩
      refine draw_step (hoist_no rfl) (q := 16) (ps := [(1, 3)]) (by kernel_rfl) ?_
      simp only [BS, LB, cls, Nat.reduceLT, Nat.reduceEqDiff, Nat.reduceAdd, Nat.reducePow, Nat.reduceDiv, Nat.reduceMod, Nat.reduceLeDiff, Tryz.FFt830, r0, r3, S.ld (b := b3) (o := 2) (by repeat constructor) rfl]
      clear f hl R
      refine dn_ret (next_ok (n := 7) (a := a1) S.ok (S.row m2) (hd.mo S.fr (by omega)) (by omega) (by omega)) ?_
      rintro v h ⟨f, r5, a2, rfl, hr5, ha2, R⟩
      have hl := S.leaves (c := b3) m0 f (by omega)
      replace S := S.call1 (i := 2) rfl f (o' := .row _ _) R
      simp only [List.set_cons_zero, List.set_cons_succ] at S
      simp only [BS, LB, cls, Nat.reduceLT, Nat.reduceEqDiff, Nat.reduceAdd, Nat.reducePow, Nat.reduceDiv, Nat.reduceMod, Nat.reduceLeDiff]
      refine dq_newS (bs_new (by first | exact Tryz.u22 | exact Tryz.u23 | exact Tryz.u24 | exact Tryz.u25) (by first | exact Tryz.e2E | exact Tryz.e5E | exact Tryz.e41E | exact Tryz.e51E) (by decide) (by first | rfl | exact fillE )) S ?_; clear S; intro h bs S n_bs e_bs; simp only [repL, setL, vcells, List.cons_append, List.nil_append, List.append_nil, List.set_cons_zero, List.set_cons_succ, Nat.reduceMul, Nat.reduceAdd, Nat.zero_mul, Nat.zero_add, Nat.mul_one, Nat.one_mul] at S
      simp only [BS, LB, cls, Nat.reduceLT, Nat.reduceEqDiff, Nat.reduceAdd, Nat.reducePow, Nat.reduceDiv, Nat.reduceMod, Nat.reduceLeDiff]
      refine dn_v (S.grow (j := 1) (m := 1) (new := ints [(r5 : Int)]) rfl Tryz.u24 Tryz.e2E (by decide) Tryz.n24 (by simp only [srcCells]; rw [S.lds (b := bs) (o := 0) (n := 1 * 1) m0 (lbt rfl)]; rfl) rfl (by decide) rfl (by rw [ints_len, ints_len]; simp; omega)) ?_
      clear S
      rintro h vY' S
      simp only [List.set_cons_zero, List.set_cons_succ] at S
      replace S := S.drop1
      rw [← ints_app] at S
      have fY : Fl vY' := (S.gown _ m1).1.fl
      simp only [BS, LB, cls, Nat.reduceLT, Nat.reduceEqDiff, Nat.reduceAdd, Nat.reducePow, Nat.reduceDiv, Nat.reduceMod, Nat.reduceLeDiff, Tryz.FFt830, r3]
      first | refine dn_u (store_fl S (i := 0) rfl ?_ ?_ ?_ ono) ?_ | refine dn_u (store_fl S (i := 1) rfl ?_ ?_ ?_ ono) ?_ | refine dn_u (store_fl S (i := 2) rfl ?_ ?_ ?_ ono) ?_ | refine dn_u (store_fl S (i := 3) rfl ?_ ?_ ?_ ono) ?_ | refine dn_u (store_fl S (i := 4) rfl ?_ ?_ ?_ ono) ?_ | refine dn_u (store_fl S (i := 5) rfl ?_ ?_ ?_ ono) ?_ | refine dn_u (store_fl S (i := 6) rfl ?_ ?_ ?_ ono) ?_ | refine dn_u (store_fl S (i := 7) rfl ?_ ?_ ?_ ono) ?_
      · exact (by simp only [Tryz.FFt830])
      · exact (by first | exact fl_int | exact fl_slice | exact fl_ptr | exact fl_bool | exact fl_map | exact fl_func | exact fl_nili | exact fl_iface | exact fl_nilf | exact fl_str | assumption)
      · exact Nat.lt_of_succ_le (lbt rfl)
      clear S; rintro h ⟨S, mo⟩; clear mo; simp only [List.set_cons_zero, List.set_cons_succ, vcells, lay, List.take, List.drop, List.nil_append, List.cons_append, List.append_nil, List.length_cons, List.length_nil, Nat.reduceAdd, Nat.add_zero] at S
      simp only [BS, LB, Nat.reduceLT, Nat.reduceEqDiff, Nat.reduceAdd, r4]
      refine ⟨by simp only [pairs_cons, pairs_nil, entry_noted, entry_hit, entry_miss, ne_eq, not_false_eq_true, note_load, note_run, note_alloc, noted_some, ll_tmp, ll_put, setR_at, Nat.reduceLT, Nat.reduceEqDiff, reduceIte, Bool.and_true, r3, ptr_eq, pair_br hl], ?_⟩
      have w : wrapI .i64 ((i : Int) + 1) = ((i + 1 : Nat) : Int) := by rw [wrap64] <;> omega
      simp only [w]
      exact ih (i + 1) _ _ (by omega) ⟨by omega, a2, vX', vY', _, _, by omega, by simp [lX], by simp [lY],
        fun x hx => (List.mem_append.1 hx).elim (cX x) (fun h => by simp at h; omega), fun x hx => (List.mem_append.1 hx).elim (cY x) (fun h => by simp at h; omega), S, by simp [setR, r0, ptr_eq], by simp [setR, r2, ptr_eq], by simp [setR, r3, ptr_eq], by simp [setR]⟩
    · have hiN : i = N := by omega
      subst hiN
      simp only [BS, LB, Nat.reduceLT, Nat.reduceEqDiff, Tryz.FFt830, r0, r3, r4, lt_nat, hlt, S.ld (b := b3) (o := 0) (by repeat constructor) rfl]
      refine step_ret (next_ok (n := 9) (a := a) S.ok (S.row m2) (hd.mo S.fr (by omega)) (by omega) (by omega)) ?_
      rintro v h ⟨f, r5, a1, rfl, hr5, ha1, R⟩
      replace S := S.call1 (i := 2) rfl f (o' := .row _ _) R
      simp only [List.set_cons_zero, List.set_cons_succ] at S
      simp only [BS, LB, Nat.reduceLT, Nat.reduceEqDiff]
      refine cstep_join (fun ρ h => ∃ (X Y : List Int), X.length = i ∧ Y.length = i ∧ (∀ x ∈ X, -2147483648 ≤ x ∧ x ≤ 2147483647) ∧ (∀ x ∈ Y, -2147483648 ≤ x ∧ x ≤ 2147483647) ∧
        St (· = bd) h0 h [(b3, .row [.int .i64 i, vX, vY, .slice none 0 0] 1), (b2, .row [.int .i64 0, .slice none 0 0, .slice none 0 0, .slice none 0 0] 1), (bd, .row [vB, .int .i64 a1] 1)] [(vX, 1, ints X), (vY, 1, ints Y), (.slice none 0 0, 3, [])] ∧
        ρ 0 = ptrTo bd ∧ ρ 2 = ptrTo b2 ∧ ρ 3 = ptrTo b3) ?_ ?_ ?_
      · intro _
        obtain ⟨bX, ix, stX⟩ := S.gset (E := Tryz.abEnv) (t := 2) (j := 0) (i := 0) (kd := .i64) rfl (by rw [ints_len]; omega) Tryz.s2
        have ix' : idxS (some 1) vX (.int .i64 0) = _ := ix
        simp only [BS, LB, Nat.reduceLT, Nat.reduceEqDiff, Tryz.FFt830, r3, ix', S.ld (b := b3) (o := 1) (by repeat constructor) rfl]
        refine step_u (stX _ fl_int) ?_
        clear S stX; intro h S
        simp only [List.set_cons_zero] at S
        obtain ⟨bY, iy, stY⟩ := S.gset (E := Tryz.abEnv) (t := 2) (j := 1) (i := i - 1) (kd := .i64) rfl (by rw [ints_len]; omega) Tryz.s2
        have w1 : wrapI .i64 ((i : Int) - 1) = ((i - 1 : Nat) : Int) := by rw [wrap64] <;> omega
        simp only [BS, LB, Nat.reduceLT, Nat.reduceEqDiff, Tryz.FFt830, r3, w1, iy, S.ld (b := b3) (o := 0) (by repeat constructor) rfl, S.ld (b := b3) (o := 2) (by repeat constructor) rfl]
        refine step_u (stY _ fl_int) ?_
        clear S stY; intro h S
        simp only [List.set_cons_zero, List.set_cons_succ] at S
        simp only [BS]
        have eset : ∀ (l : List Int) (j : Nat) (z : Int), (ints l).set j (.int .i64 z) = ints (l.set j z) := by
          intro l
          induction l with
          | nil => intro j z; rfl
          | cons x l ih =>
            intro j z
            cases j with
            | zero => rfl
            | succ j => show _ :: _ = _ :: _; exact congrArg _ (ih j z)
        rw [eset, eset] at S
        refine jp_normal ⟨_, _, by simp [lX], by simp [lY], fun x hx => ?_, fun x hx => ?_, S, by simp [setR, r0, ptr_eq], by simp [setR, r2, ptr_eq], by simp [setR, r3, ptr_eq]⟩
        · rcases mem_set hx with rfl | ⟨j, _, hx⟩
          · omega
          · exact cX x (List.mem_of_getElem? hx)
        · rcases mem_set hx with rfl | ⟨j, _, hx⟩
          · omega
          · exact cY x (List.mem_of_getElem? hx)
      · intro _
        simp only [BS]
        exact jp_normal ⟨X, Y, lX, lY, cX, cY, S, by simp [setR, r0, ptr_eq], by simp [setR, r2, ptr_eq], by simp [setR, r3, ptr_eq]⟩
      · clear S r0 r2 r3 r4 lX lY cX cY X Y f R
        rintro ρ h ⟨X, Y, lX, lY, cX, cY, S, r0, r2, r3⟩
        have w3 : wrapI .i64 (3 * (i : Int)) = ((3 * i : Nat) : Int) := by rw [wrap64] <;> omega
        have w4 : wrapI .i64 (((3 * i : Nat) : Int) + 1) = ((3 * i + 1 : Nat) : Int) := by rw [wrap64] <;> omega
        simp only [BS, LB, Nat.reduceLT, Nat.reduceEqDiff, Tryz.FFt830, r0, r3, w3, w4, S.ld (b := b3) (o := 0) (by repeat constructor) rfl]
        refine step_ret (next_ok (n := 3 * i + 1) (a := a1) S.ok (S.row m2) (hd.mo S.fr (by omega)) (by omega) (by omega)) ?_
        rintro v h ⟨f, many, a2, rfl, hmany, ha2, R⟩
        replace S := S.call1 (i := 2) rfl f (o' := .row _ _) R
        simp only [List.set_cons_zero, List.set_cons_succ] at S
        simp only [BS, LB, Nat.reduceLT, Nat.reduceEqDiff, r0]
        refine step_ret (next_ok (n := 3) (a := a2) S.ok (S.row m2) (hd.mo S.fr (by omega)) (by omega) (by omega)) ?_
        rintro v h ⟨f, rr, a3, rfl, hrr, ha3, R⟩
        replace S := S.call1 (i := 2) rfl f (o' := .row _ _) R
        simp only [List.set_cons_zero, List.set_cons_succ] at S
        simp only [BS, LB, Nat.reduceLT, Nat.reduceEqDiff]
        generalize decide ((0 : Int) < (rr : Int)) = ring
        refine loop_cut (fun ρ h => ∃ (a : Nat) (vA : Value) (A : List Arc), a ≤ a3 + 2 * i ∧ A.length ≤ i ∧ (∀ x ∈ A, x.s < i ∧ x.t < i ∧ x.w ≤ 2147483647) ∧
          St (· = bd) h0 h [(b3, .row [.int .i64 i, vX, vY, vA] 1), (b2, .row [.int .i64 0, .slice none 0 0, .slice none 0 0, .slice none 0 0] 1), (bd, .row [vB, .int .i64 a] 1)] [(vX, 1, ints X), (vY, 1, ints Y), (vA, 3, A.flatMap encA)] ∧
          ρ 0 = ptrTo bd ∧ ρ 2 = ptrTo b2 ∧ ρ 3 = ptrTo b3 ∧ ρ 5 = .int .i64 many)
          (fun (j : Nat) ρ h => j ≤ i ∧ ∃ (a : Nat) (vA : Value) (A : List Arc), a ≤ a3 + 2 * j ∧ A.length ≤ j ∧ (∀ x ∈ A, x.s < i ∧ x.t < i ∧ x.w ≤ 2147483647) ∧
          St (· = bd) h0 h [(b3, .row [.int .i64 i, vX, vY, vA] 1), (b2, .row [.int .i64 0, .slice none 0 0, .slice none 0 0, .slice none 0 0] 1), (bd, .row [vB, .int .i64 a] 1)] [(vX, 1, ints X), (vY, 1, ints Y), (vA, 3, A.flatMap encA)] ∧
          ρ 0 = ptrTo bd ∧ ρ 2 = ptrTo b2 ∧ ρ 3 = ptrTo b3 ∧ ρ 5 = .int .i64 many ∧ ρ 6 = .bool ring ∧ ρ 7 = .int .i64 j) (fun j => i - j) ?_ ?_ 0 ⟨by omega, a3, _, [], by omega, by simp, by simp, S, by simp [setR, r0, ptr_eq], by simp [setR, r2, ptr_eq], by simp [setR, r3, ptr_eq], by simp [setR], by simp [setR], by simp [setR]⟩
        · clear S r0 r2 r3 f R ih
          intro j ih ρ h ⟨hj, a, vA, A, ha, lA, cA, S, r0, r2, r3, r5, r6, r7⟩
          have flen : (A.flatMap encA).length = A.length * 3 := flatMap_len encA_len A
          by_cases hlt : j < i ∧ ring = true
          · obtain ⟨hlt, hring⟩ := hlt
            subst hring
            have w1 : wrapI .i64 ((j : Int) + 1) = ((j + 1 : Nat) : Int) := by rw [wrap64] <;> omega
            have ci : (i : Int) ≠ 0 := by omega
            have tm : ((j + 1 : Nat) : Int).tmod (i : Int) = (((j + 1) % i : Nat) : Int) := by rw [Int.tmod_eq_emod_of_nonneg (by omega)]; exact (Int.natCast_emod _ _).symm
            simp only [BS, LB, Nat.reduceLT, Nat.reduceEqDiff, Tryz.FFt830, r3, r6, r7, lt_nat, hlt, S.ld (b := b3) (o := 0) (by repeat constructor) rfl]
            refine draw_step (hoist_no rfl) (q := 2048) (ps := [(6, 9), (1, 9)]) (by kernel_rfl) ?_
            simp only [BS, LB, cls, Nat.reduceLT, Nat.reduceEqDiff, Nat.reduceAdd, Nat.reducePow, Nat.reduceDiv, Nat.reduceMod, Nat.reduceLeDiff, Tryz.FFt830, r0, r3, r7, w1, b_rem ci, tm, S.ld (b := b3) (o := 0) (by repeat constructor) rfl, S.ld (b := b3) (o := 3) (by repeat constructor) rfl]
            refine dn_ret (weight_ok (a := a) S.ok (S.row m2) (hd.mo S.fr (by omega)) (by omega)) ?_
            rintro v h ⟨f, wt, a4, rfl, hwt, ha4, R⟩
            have hl := S.leaves (c := b3) m0 f (by omega)
            replace S := S.call1 (i := 2) rfl f (o' := .row _ _) R
            simp only [List.set_cons_zero, List.set_cons_succ] at S
            simp only [BS, LB, cls, Nat.reduceLT, Nat.reduceEqDiff, Nat.reduceAdd, Nat.reducePow, Nat.reduceDiv, Nat.reduceMod, Nat.reduceLeDiff, Tryz.FFt830]
            refine dq_newS (bs_new (by first | exact Tryz.u22 | exact Tryz.u23 | exact Tryz.u24 | exact Tryz.u25) (by first | exact Tryz.e2E | exact Tryz.e5E | exact Tryz.e41E | exact Tryz.e51E) (by decide) (by first | rfl | exact fillE )) S ?_; clear S; intro h bs S n_bs e_bs; simp only [repL, setL, vcells, List.cons_append, List.nil_append, List.append_nil, List.set_cons_zero, List.set_cons_succ, Nat.reduceMul, Nat.reduceAdd, Nat.zero_mul, Nat.zero_add, Nat.mul_one, Nat.one_mul] at S
            simp only [BS, LB, cls, Nat.reduceLT, Nat.reduceEqDiff, Nat.reduceAdd, Nat.reducePow, Nat.reduceDiv, Nat.reduceMod, Nat.reduceLeDiff]
            refine dn_v (S.grow (j := 2) (m := 1) (new := encA ⟨j, (j + 1) % i, wt⟩) rfl Tryz.u25 Tryz.e51E (by decide) Tryz.n25 (by simp only [srcCells]; rw [S.lds (b := bs) (o := 0) (n := 1 * 3) m0 (lbt rfl)]; rfl) rfl (by decide) rfl (by rw [flen, encA_len]; omega)) ?_
            clear S
            rintro h vA' S
            simp only [List.set_cons_zero, List.set_cons_succ] at S
            replace S := S.drop1
            have fA : Fl vA' := (S.gown _ m2).1.fl
            simp only [BS, LB, cls, Nat.reduceLT, Nat.reduceEqDiff, Nat.reduceAdd, Nat.reducePow, Nat.reduceDiv, Nat.reduceMod, Nat.reduceLeDiff, Tryz.FFt830, r3]
            first | refine dn_u (store_fl S (i := 0) rfl ?_ ?_ ?_ ono) ?_ | refine dn_u (store_fl S (i := 1) rfl ?_ ?_ ?_ ono) ?_ | refine dn_u (store_fl S (i := 2) rfl ?_ ?_ ?_ ono) ?_ | refine dn_u (store_fl S (i := 3) rfl ?_ ?_ ?_ ono) ?_ | refine dn_u (store_fl S (i := 4) rfl ?_ ?_ ?_ ono) ?_ | refine dn_u (store_fl S (i := 5) rfl ?_ ?_ ?_ ono) ?_ | refine dn_u (store_fl S (i := 6) rfl ?_ ?_ ?_ ono) ?_ | refine dn_u (store_fl S (i := 7) rfl ?_ ?_ ?_ ono) ?_
            · exact (by simp only [Tryz.FFt830])
            · exact (by first | exact fl_int | exact fl_slice | exact fl_ptr | exact fl_bool | exact fl_map | exact fl_func | exact fl_nili | exact fl_iface | exact fl_nilf | exact fl_str | assumption)
            · exact Nat.lt_of_succ_le (lbt rfl)
            clear S; rintro h ⟨S, mo⟩; clear mo; simp only [List.set_cons_zero, List.set_cons_succ, vcells, lay, List.take, List.drop, List.nil_append, List.cons_append, List.append_nil, List.length_cons, List.length_nil, Nat.reduceAdd, Nat.add_zero] at S
            simp only [BS, LB, Nat.reduceLT, Nat.reduceEqDiff, Nat.reduceAdd, r7]
            refine ⟨by simp only [pairs_cons, pairs_nil, entry_noted, entry_hit, entry_miss, ne_eq, not_false_eq_true, note_load, note_run, note_alloc, noted_some, ll_tmp, ll_put, setR_at, Nat.reduceLT, Nat.reduceEqDiff, reduceIte, Bool.and_true, r3, ptr_eq, pair_br hl], ?_⟩
            simp only [w1]
            have hmod : (j + 1) % i < i := Nat.mod_lt _ (by omega)
            exact ih (j + 1) _ _ (by omega) ⟨by omega, a4, vA', A ++ [⟨j, (j + 1) % i, wt⟩], by omega, by simp; omega,
              fun x hx => (List.mem_append.1 hx).elim (cA x) (fun h => by simp at h; subst h; exact ⟨hlt, hmod, hwt⟩), by rw [List.flatMap_append]; simpa using S, by simp [setR, r0, ptr_eq], by simp [setR, r2, ptr_eq], by simp [setR, r3, ptr_eq], by simp [setR, r5], by simp [setR, r6], by simp [setR]⟩
          · by_cases hji : j < i
            · have hring : ring = false := by cases ring with
                | false => rfl
                | true => exact absurd ⟨hji, rfl⟩ hlt
              subst hring
              simp only [BS, LB, Nat.reduceLT, Nat.reduceEqDiff, Tryz.FFt830, r3, r6, r7, lt_nat, hji, S.ld (b := b3) (o := 0) (by repeat constructor) rfl]
              exact jp_normal ⟨a, vA, A, by omega, by omega, cA, S, by simp [setR, r0, ptr_eq], by simp [setR, r2, ptr_eq], by simp [setR, r3, ptr_eq], by simp [setR, r5]⟩
            · simp only [BS, LB, Nat.reduceLT, Nat.reduceEqDiff, Tryz.FFt830, r3, r7, lt_nat, hji, S.ld (b := b3) (o := 0) (by repeat constructor) rfl]
              exact jp_normal ⟨a, vA, A, by omega, by omega, cA, S, by simp [setR, r0, ptr_eq], by simp [setR, r2, ptr_eq], by simp [setR, r3, ptr_eq], by simp [setR, r5]⟩
        · clear S r0 r2 r3 f R ih
          rintro ρ h ⟨a, vA, A, ha, lA, cA, S, r0, r2, r3, r5⟩
          simp only [BS]
          refine loop_cut (fun ρ h => ∃ (a : Nat) (vA : Value) (A : List Arc), A.length ≤ 100 ∧ (∀ x ∈ A, x.s < i ∧ x.t < i ∧ x.w ≤ 2147483647) ∧
            St (· = bd) h0 h [(b3, .row [.int .i64 i, vX, vY, vA] 1), (b2, .row [.int .i64 0, .slice none 0 0, .slice none 0 0, .slice none 0 0] 1), (bd, .row [vB, .int .i64 a] 1)] [(vX, 1, ints X), (vY, 1, ints Y), (vA, 3, A.flatMap encA)] ∧
            ρ 0 = ptrTo bd ∧ ρ 2 = ptrTo b2 ∧ ρ 3 = ptrTo b3)
            (fun (k : Nat) ρ h => k ≤ many ∧ ∃ (a : Nat) (vA : Value) (A : List Arc), a ≤ a3 + 2 * i + 6 * k ∧ A.length ≤ i + 2 * k ∧ (∀ x ∈ A, x.s < i ∧ x.t < i ∧ x.w ≤ 2147483647) ∧
            St (· = bd) h0 h [(b3, .row [.int .i64 i, vX, vY, vA] 1), (b2, .row [.int .i64 0, .slice none 0 0, .slice none 0 0, .slice none 0 0] 1), (bd, .row [vB, .int .i64 a] 1)] [(vX, 1, ints X), (vY, 1, ints Y), (vA, 3, A.flatMap encA)] ∧
            ρ 0 = ptrTo bd ∧ ρ 2 = ptrTo b2 ∧ ρ 3 = ptrTo b3 ∧ ρ 5 = .int .i64 many ∧ ρ 8 = .int .i64 k) (fun k => many - k) ?_ ?_ 0 ⟨by omega, a, vA, A, by omega, by omega, cA, S, by simp [setR, r0, ptr_eq], by simp [setR, r2, ptr_eq], by simp [setR, r3, ptr_eq], by simp [setR, r5], by simp [setR]⟩
          · clear S r0 r2 r3 r5 ha lA cA a vA A
            intro k ih ρ h ⟨hk, a, vA, A, ha, lA, cA, S, r0, r2, r3, r5, r8⟩
            have flen : (A.flatMap encA).length = A.length * 3 := flatMap_len encA_len A
            by_cases hlt : k < many
            · simp only [BS, LB, Nat.reduceLT, Nat.reduceEqDiff, r5, r8, lt_nat, hlt]
              refine draw_step (hoist_yes (ord := [11, 0, 1, 2, 3, 4, 5, 6, 7, 8, 9, 10, 12]) rfl rfl (by simp only [pickL, reix, posOf, List.getElem?_cons_zero, List.getElem?_cons_succ, List.map_toArray, List.map_cons, List.map_nil, Nat.reduceBEq, cond_true, cond_false]; exact rfl)) (q := 1) (ps := [(0, 10), (0, 8), (4, 7), (0, 4)]) (by kernel_rfl) ?_
              simp only [BS, LB, cls, Nat.reducePow, Nat.reduceDiv, Nat.reduceMod, Nat.reduceLeDiff, Tryz.FFt830]
              refine dq_newS allocR_new S ?_; clear S; intro h b9 S n_b9 e_b9
              simp only [BS, LB, cls, Nat.reduceLT, Nat.reduceEqDiff, Nat.reduceAdd, Nat.reducePow, Nat.reduceDiv, Nat.reduceMod, Nat.reduceLeDiff, Tryz.FFt830, r0, r3, S.ld (b := b3) (o := 0) (by repeat constructor) rfl]
              refine dn_ret (next_ok (n := i) (a := a) S.ok (S.row m3) (hd.mo S.fr (by omega)) (by omega) (by omega)) ?_
              rintro v h ⟨f, s1, a4, rfl, hs1, ha4, R⟩
              have hl0 := S.leaves (c := b9) m0 f (by omega)
              have hl4 := S.leaves (c := b3) m1 f (by omega)
              replace S := S.call1 (i := 3) rfl f (o' := .row _ _) R
              simp only [List.set_cons_zero, List.set_cons_succ] at S
              simp only [BS, LB, cls, Nat.reduceLT, Nat.reduceEqDiff, Nat.reduceAdd, Nat.reducePow, Nat.reduceDiv, Nat.reduceMod, Nat.reduceLeDiff, Tryz.FFt830, r0, r3, S.ld (b := b3) (o := 0) (by repeat constructor) rfl]
              refine dn_ret (next_ok (n := i) (a := a4) S.ok (S.row m3) (hd.mo S.fr (by omega)) (by omega) (by omega)) ?_
              rintro v h ⟨f, s2, a5, rfl, hs2, ha5, R⟩
              have hl1 := S.leaves (c := b9) m0 f (by omega)
              have hl2 := S.leaves (c := b3) m1 f (by omega)
              replace S := S.call1 (i := 3) rfl f (o' := .row _ _) R
              simp only [List.set_cons_zero, List.set_cons_succ] at S
              simp only [BS, LB, cls, Nat.reduceLT, Nat.reduceEqDiff, Nat.reduceAdd, Nat.reducePow, Nat.reduceDiv, Nat.reduceMod, Nat.reduceLeDiff, r0]
              refine dn_ret (weight_ok (a := a5) S.ok (S.row m3) (hd.mo S.fr (by omega)) (by omega)) ?_
              rintro v h ⟨f, wt, a6, rfl, hwt, ha6, R⟩
              have hl3 := S.leaves (c := b9) m0 f (by omega)
              replace S := S.call1 (i := 3) rfl f (o' := .row _ _) R
              simp only [List.set_cons_zero, List.set_cons_succ] at S
              simp only [BS, LB, cls, Nat.reduceLT, Nat.reduceEqDiff, Nat.reduceAdd, Nat.reducePow, Nat.reduceDiv, Nat.reduceMod, Nat.reduceLeDiff, Tryz.FFt830]
              first | refine dn_u (S.store (i := 0) rfl ?_ ?_ rfl rfl ?_ ono) ?_ | refine dn_u (S.store (i := 1) rfl ?_ ?_ rfl rfl ?_ ono) ?_ | refine dn_u (S.store (i := 2) rfl ?_ ?_ rfl rfl ?_ ono) ?_ | refine dn_u (S.store (i := 3) rfl ?_ ?_ rfl rfl ?_ ono) ?_ | refine dn_u (S.store (i := 4) rfl ?_ ?_ rfl rfl ?_ ono) ?_ | refine dn_u (S.store (i := 5) rfl ?_ ?_ rfl rfl ?_ ono) ?_ | refine dn_u (S.store (i := 6) rfl ?_ ?_ rfl rfl ?_ ono) ?_ | refine dn_u (S.store (i := 7) rfl ?_ ?_ rfl rfl ?_ ono) ?_
              · exact (by first | exact Tryz.s7 | exact Tryz.s8 | exact Tryz.s13 | exact Tryz.s14 | exact Tryz.s18 | exact Tryz.s19 | exact Tryz.s27 | exact Tryz.s51 | exact Tryz.s72 | exact Tryz.s237 | exact Tryz.s238 | exact Tryz.s240 | exact Tryz.s248)
              · exact (by intro x e; cases e)
              · exact lbt rfl
              clear S; rintro h ⟨S, mo⟩; clear mo; simp only [List.set_cons_zero, List.set_cons_succ, vcells, lay, List.take, List.drop, List.nil_append, List.cons_append, List.append_nil, List.length_cons, List.length_nil, Nat.reduceAdd, Nat.add_zero] at S
              simp only [BS, LB, Nat.reduceLT, Nat.reduceEqDiff, Nat.reduceAdd, Tryz.FFt830, r3]
              refine ⟨by simp only [pairs_cons, pairs_nil, entry_noted, entry_hit, entry_miss, ne_eq, not_false_eq_true, note_load, note_run, note_alloc, noted_some, ll_tmp, ll_put, setR_at, Nat.reduceLT, Nat.reduceEqDiff, reduceIte, Bool.and_true, r3, ptr_eq, ← e_b9, pair_br hl0, pair_br hl1, pair_br hl2, pair_br hl3, pair_rb hl4], ?_⟩
              simp only [BS, LB, Nat.reduceLT, Nat.reduceEqDiff, Tryz.FFt830, S.ld (b := b3) (o := 3) (by repeat constructor) rfl, S.lds (b := b9) (o := 0) (n := 3) (by repeat constructor) (lbt rfl)]
              refine step_newS (bs_new (by first | exact Tryz.u22 | exact Tryz.u23 | exact Tryz.u24 | exact Tryz.u25) (by first | exact Tryz.e2E | exact Tryz.e5E | exact Tryz.e41E | exact Tryz.e51E) (by decide) (by first | rfl | exact fillE )) S ?_; clear S; intro h bs S n_bs; simp only [repL, setL, vcells, List.cons_append, List.nil_append, List.append_nil, List.set_cons_zero, List.set_cons_succ, Nat.reduceMul, Nat.reduceAdd, Nat.zero_mul, Nat.zero_add, Nat.mul_one, Nat.one_mul] at S
              simp only [BS, LB, Nat.reduceLT, Nat.reduceEqDiff]
              refine step_v (S.grow (j := 2) (m := 1) (new := encA ⟨s1, s2, wt⟩) rfl Tryz.u25 Tryz.e51E (by decide) Tryz.n25 (by simp only [srcCells]; rw [S.lds (b := bs) (o := 0) (n := 1 * 3) m0 (lbt rfl)]; rfl) rfl (by decide) rfl (by rw [flen, encA_len]; omega)) ?_
              clear S
              rintro h vA' S
              simp only [List.set_cons_zero, List.set_cons_succ] at S
              replace S := S.drop1
              have fA : Fl vA' := (S.gown _ m2).1.fl
              simp only [BS, LB, Nat.reduceLT, Nat.reduceEqDiff, Tryz.FFt830, r3]
              first | refine step_u (store_fl S (i := 0) rfl ?_ ?_ ?_ ono) ?_ | refine step_u (store_fl S (i := 1) rfl ?_ ?_ ?_ ono) ?_ | refine step_u (store_fl S (i := 2) rfl ?_ ?_ ?_ ono) ?_ | refine step_u (store_fl S (i := 3) rfl ?_ ?_ ?_ ono) ?_ | refine step_u (store_fl S (i := 4) rfl ?_ ?_ ?_ ono) ?_ | refine step_u (store_fl S (i := 5) rfl ?_ ?_ ?_ ono) ?_ | refine step_u (store_fl S (i := 6) rfl ?_ ?_ ?_ ono) ?_ | refine step_u (store_fl S (i := 7) rfl ?_ ?_ ?_ ono) ?_
              · exact (by simp only [Tryz.FFt830])
              · exact (by first | exact fl_int | exact fl_slice | exact fl_ptr | exact fl_bool | exact fl_map | exact fl_func | exact fl_nili | exact fl_iface | exact fl_nilf | exact fl_str | assumption)
              · exact Nat.lt_of_succ_le (lbt rfl)
              clear S; rintro h ⟨S, mo⟩; clear mo; simp only [List.set_cons_zero, List.set_cons_succ, vcells, lay, List.take, List.drop, List.nil_append, List.cons_append, List.append_nil, List.length_cons, List.length_nil, Nat.reduceAdd, Nat.add_zero] at S
              simp only [BS, LB, Nat.reduceLT, Nat.reduceEqDiff, r0]
              refine step_ret (next_ok (n := 4) (a := a6) S.ok (S.row m3) (hd.mo S.fr (by omega)) (by omega) (by omega)) ?_
              rintro v h ⟨f, r9, a7, rfl, hr9, ha7, R⟩
              replace S := S.call1 (i := 3) rfl f (o' := .row _ _) R
              simp only [List.set_cons_zero, List.set_cons_succ] at S
              have w8 : wrapI .i64 ((k : Int) + 1) = ((k + 1 : Nat) : Int) := by rw [wrap64] <;> omega
              have flen' : (A.flatMap encA ++ encA ⟨s1, s2, wt⟩).length = A.length * 3 + 3 := by rw [List.length_append, flen, encA_len]
              have cA' : ∀ x ∈ A ++ [(⟨s1, s2, wt⟩ : Arc)], x.s < i ∧ x.t < i ∧ x.w ≤ 2147483647 := fun x hx => (List.mem_append.1 hx).elim (cA x) (fun h => by simp at h; subst h; exact ⟨hs1, hs2, hwt⟩)
              by_cases hz : (r9 : Int) = 0
              · simp only [BS, LB, Nat.reduceLT, Nat.reduceEqDiff, Nat.reduceAdd, Tryz.FFt830, r3, hz, S.ld (b := b3) (o := 3) (by repeat constructor) rfl, S.ld (b := b9) (o := 0) (by repeat constructor) rfl, S.ld (b := b9) (o := 1) (by repeat constructor) rfl, S.ld (b := b9) (o := 2) (by repeat constructor) rfl]
                refine step_newS (bs_new (by first | exact Tryz.u22 | exact Tryz.u23 | exact Tryz.u24 | exact Tryz.u25) (by first | exact Tryz.e2E | exact Tryz.e5E | exact Tryz.e41E | exact Tryz.e51E) (by decide) (by first | rfl | exact fillE )) S ?_; clear S; intro h bs S n_bs; simp only [repL, setL, vcells, List.cons_append, List.nil_append, List.append_nil, List.set_cons_zero, List.set_cons_succ, Nat.reduceMul, Nat.reduceAdd, Nat.zero_mul, Nat.zero_add, Nat.mul_one, Nat.one_mul] at S
                simp only [BS, LB, Nat.reduceLT, Nat.reduceEqDiff]
                refine step_v (S.grow (j := 2) (m := 1) (new := encA ⟨s2, s1, wt⟩) rfl Tryz.u25 Tryz.e51E (by decide) Tryz.n25 (by simp only [srcCells]; rw [S.lds (b := bs) (o := 0) (n := 1 * 3) m0 (lbt rfl)]; rfl) rfl (by decide) rfl (by rw [flen', encA_len]; omega)) ?_
                clear S
                rintro h vA2 S
                simp only [List.set_cons_zero, List.set_cons_succ] at S
                replace S := S.drop1
                have fA : Fl vA2 := (S.gown _ m2).1.fl
                simp only [BS, LB, Nat.reduceLT, Nat.reduceEqDiff, Tryz.FFt830, r3]
                first | refine step_u (store_fl S (i := 0) rfl ?_ ?_ ?_ ono) ?_ | refine step_u (store_fl S (i := 1) rfl ?_ ?_ ?_ ono) ?_ | refine step_u (store_fl S (i := 2) rfl ?_ ?_ ?_ ono) ?_ | refine step_u (store_fl S (i := 3) rfl ?_ ?_ ?_ ono) ?_ | refine step_u (store_fl S (i := 4) rfl ?_ ?_ ?_ ono) ?_ | refine step_u (store_fl S (i := 5) rfl ?_ ?_ ?_ ono) ?_ | refine step_u (store_fl S (i := 6) rfl ?_ ?_ ?_ ono) ?_ | refine step_u (store_fl S (i := 7) rfl ?_ ?_ ?_ ono) ?_
                · exact (by simp only [Tryz.FFt830])
                · exact (by first | exact fl_int | exact fl_slice | exact fl_ptr | exact fl_bool | exact fl_map | exact fl_func | exact fl_nili | exact fl_iface | exact fl_nilf | exact fl_str | assumption)
                · exact Nat.lt_of_succ_le (lbt rfl)
                clear S; rintro h ⟨S, mo⟩; clear mo; simp only [List.set_cons_zero, List.set_cons_succ, vcells, lay, List.take, List.drop, List.nil_append, List.cons_append, List.append_nil, List.length_cons, List.length_nil, Nat.reduceAdd, Nat.add_zero] at S
                simp only [BS, LB, Nat.reduceLT, Nat.reduceEqDiff, r8, w8]
                replace S := S.drop1
                exact ih (k + 1) _ _ (by omega) ⟨by omega, a7, vA2, A ++ [⟨s1, s2, wt⟩] ++ [⟨s2, s1, wt⟩], by omega, by simp; omega,
                  fun x hx => (List.mem_append.1 hx).elim (cA' x) (fun h => by simp at h; subst h; exact ⟨hs2, hs1, hwt⟩), by rw [List.flatMap_append, List.flatMap_append]; simpa using S, by simp [setR, r0, ptr_eq], by simp [setR, r2, ptr_eq], by simp [setR, r3, ptr_eq], by simp [setR, r5], by simp [setR]⟩
              · simp only [BS, LB, Nat.reduceLT, Nat.reduceEqDiff, r8, hz, w8]
                replace S := S.drop1
                exact ih (k + 1) _ _ (by omega) ⟨by omega, a7, vA', A ++ [⟨s1, s2, wt⟩], by omega, by simp; omega,
                  cA', by rw [List.flatMap_append]; simpa using S, by simp [setR, r0, ptr_eq], by simp [setR, r2, ptr_eq], by simp [setR, r3, ptr_eq], by simp [setR, r5], by simp [setR]⟩
            · simp only [BS, LB, Nat.reduceLT, Nat.reduceEqDiff, r5, r8, lt_nat, hlt]
              exact jp_normal ⟨a, vA, A, by omega, cA, S, by simp [setR, r0, ptr_eq], by simp [setR, r2, ptr_eq], by simp [setR, r3, ptr_eq]⟩
          · clear S r0 r2 r3 r5 ha lA cA a vA A
            rintro ρ h ⟨a, vA, A, lA, cA, S, r0, r2, r3⟩
            simp only [BS, LB, Nat.reduceLT, Nat.reduceEqDiff, Tryz.FFt830, r2, r3, S.lds (b := b3) (o := 0) (n := 4) (by repeat constructor) (lbt rfl)]
            have fX : Fl vX := (S.gown _ m0).1.fl
            have fY : Fl vY := (S.gown _ m1).1.fl
            have fA : Fl vA := (S.gown _ m2).1.fl
            refine step_u (S.store (i := 1) rfl Tryz.s27 (by intro x e; cases e) rfl (by simp only [vcells, List.take, List.drop, List.all_cons, List.all_nil, fX.2.1, fY.2.1, fA.2.1, Bool.and_true]; rfl) (lbt rfl) ono) ?_
            clear S; rintro h ⟨S, _⟩
            simp only [List.set_cons_zero, List.set_cons_succ, vcells, lay, List.take, List.drop, List.nil_append, List.cons_append, List.append_nil, List.length_cons, List.length_nil, Nat.reduceAdd, Nat.add_zero] at S
            simp only [BS, tupleOf]
            refine ⟨_, rr_cell (by decide) (by simp only [setR_at, r2, ptr_eq, Nat.reduceEqDiff, reduceIte]; exact loadV_aggr Tryz.a27 Tryz.s27 (S.lds (b := b2) (o := 0) (n := 4) m1 (lbt rfl))), ?_⟩
            have blk : ∀ p ∈ [(vX, 1, ints X), (vY, 1, ints Y), (vA, 3, A.flatMap encA)], ∀ c, blkOf p.1 c → h0.n ≤ c := by
              intro p hp c hc
              obtain ⟨h1, h2⟩ := S.gblk hp hc
              rcases h1 with h1 | h1
              · exact h1
              · exact absurd (by simp [h1]) h2
            refine ⟨S.fr, ⟨i, X, Y, A⟩, vX, vY, vA, rfl, ⟨show 1 ≤ i by omega, show i ≤ 12 by omega, lX, lY, cX, cY, lA, cA⟩, ⟨(S.gown _ m0).1.sl rfl (fun _ => rfl) (by decide), (S.gown _ m1).1.sl rfl (fun _ => rfl) (by decide), (S.gown _ m2).1.sl rfl (fun _ => rfl) (by decide)⟩, ?_⟩
            rintro c (hc | hc | hc)
            · exact blk _ m0 c hc
            · exact blk _ m1 c hc
            · exact blk _ m2 c hc
  · exact ⟨by omega, a0, _, _, [], [], by omega, rfl, rfl, by simp, by simp, S, by simp [setR, argR, ptr_eq], by simp [setR, ptr_eq], by simp [setR, ptr_eq], by simp [setR]⟩
end Go.Ab

end
section
namespace Go.Ab
open Go.Proofs
set_option maxRecDepth 10000
open Tryz in
def Tryz.FFt976 := aj a1 <| aj s1 <| aj z1 <| aj n1 <| aj u2 <| aj a2 <| aj s2 <| aj z2 <| aj i2 <| aj u3 <| aj a3 <| aj s3 <| aj z3 <| aj i3 <| aj u24 <| aj a24 <| aj s24 <| aj z24 <| aj q24 <| aj n24 <| aj u25 <| aj a25 <| aj s25 <| aj z25 <| aj q25 <| aj n25 <| aj a27 <| aj s27 <| aj z27 <| aj i27 <| aj n27 <| aj p27 <| aj ff27 <| aj d27 <| aj a51 <| aj s51 <| aj z51 <| aj i51 <| aj n51 <| aj p51 <| aj ff51 <| d51
theorem leaves_gr {h h' : Hp} {b : Nat} (g : Gr h h') (hb : b < h.n) : leaves h h' b = true := leaves_same (g.get b hb)
theorem own_ok {h0 : Hp} (ok : h0.t.Sized h0.n) {γ : Gra} (hγ : Good γ) {vx vy va : Value} (ga : GraphAt h0 vx vy va γ) :
    Ret Tryz.abEnv 76 [rawV γ vx vy va] h0 fun v h' => Gr h0 h' ∧ ∃ vx vy va, v = rawV γ vx vy va ∧ GraphAt h' vx vy va γ ∧ ∀ c, blkOf vx c ∨ blkOf vy c ∨ blkOf va c → h0.n ≤ c := by
  have S := St.init (M := NoM) ok
  have lX := hγ.lX
  have lY := hγ.lY
  have n2 := hγ.n2
  have many := hγ.many
  refine enter_ret (n := 16) (rs := [.cell 2 27]) rfl Tryz.e76 rfl rfl rfl (lbt rfl) ?_
  simp only [BS, Nat.reduceLT, rawV]
  refine step_newS (box_new (by intro x e; cases e)) S ?_; clear S; intro h b S n_b; simp only [vcells] at S
  simp only [BS, Tryz.FFt976]
  refine step_newS allocR_new S ?_; clear S; intro h b2 S n_b2
  simp only [BS]
  refine draw_step (hoist_no rfl) (q := 0) (ps := [(5, 7), (2, 7), (2, 4)]) (by kernel_rfl) ?_
  simp only [BS, LB, cls, Nat.reduceLT, Nat.reduceEqDiff, Nat.reduceAdd, Nat.reducePow, Nat.reduceDiv, Nat.reduceMod, Nat.reduceLeDiff, Tryz.FFt976, S.ld (b := b) (o := 1) (by repeat constructor) rfl]
  refine dn_ret (clone64_ok S.ok (ga.X.gr S.gr) (by omega)) ?_
  have k1 := S.fr.n
  rintro v1 h ⟨g, s1, q1⟩
  have e1 := leaves_gr g ((S.row (b := b) m1).lt S.ok)
  have a1 : ∀ c, blkOf v1 c → ¬ c = b := fun c hc e => by have := q1 c hc; have := (S.row (b := b) m1).lt S.ok; omega
  have b1' : ∀ c, blkOf v1 c → ¬ c = b2 := fun c hc e => by have := q1 c hc; have := (S.row (b := b2) m0).lt S.ok; omega
  replace S := S.call g
  simp only [BS, LB, cls, Nat.reduceLT, Nat.reduceEqDiff, Nat.reduceAdd, Nat.reducePow, Nat.reduceDiv, Nat.reduceMod, Nat.reduceLeDiff, Tryz.FFt976, S.ld (b := b) (o := 2) (by repeat constructor) rfl]
  refine dn_ret (clone64_ok S.ok (ga.Y.gr S.gr) (by omega)) ?_
  have k2 := S.fr.n
  rintro v2 h ⟨g, s2, q2⟩
  have e2 := leaves_gr g ((S.row (b := b) m1).lt S.ok)
  have a2 : ∀ c, blkOf v2 c → ¬ c = b := fun c hc e => by have := q2 c hc; have := (S.row (b := b) m1).lt S.ok; omega
  have b2' : ∀ c, blkOf v2 c → ¬ c = b2 := fun c hc e => by have := q2 c hc; have := (S.row (b := b2) m0).lt S.ok; omega
  replace S := S.call g
  replace s1 := s1.gr g
  simp only [BS, LB, cls, Nat.reduceLT, Nat.reduceEqDiff, Nat.reduceAdd, Nat.reducePow, Nat.reduceDiv, Nat.reduceMod, Nat.reduceLeDiff, Tryz.FFt976, S.ld (b := b) (o := 3) (by repeat constructor) rfl]
  refine dn_ret (cloneArc_ok S.ok (ga.A.gr S.gr) (by omega)) ?_
  have k3 := S.fr.n
  rintro v3 h ⟨g, s3, q3⟩
  have e3 := leaves_gr g ((S.row (b := b) m1).lt S.ok)
  have a3 : ∀ c, blkOf v3 c → ¬ c = b := fun c hc e => by have := q3 c hc; have := (S.row (b := b) m1).lt S.ok; omega
  have b3' : ∀ c, blkOf v3 c → ¬ c = b2 := fun c hc e => by have := q3 c hc; have := (S.row (b := b2) m0).lt S.ok; omega
  replace S := S.call g
  replace s1 := s1.gr g
  replace s2 := s2.gr g
  have z : ∀ c, blkOf v1 c ∨ blkOf v2 c ∨ blkOf v3 c → h0.n ≤ c := fun c hc => by
    rcases hc with h | h | h
    · exact Nat.le_trans k1 (q1 c h)
    · exact Nat.le_trans k2 (q2 c h)
    · exact Nat.le_trans k3 (q3 c h)
  have f1 := s1.fl
  have f2 := s2.fl
  have f3 := s3.fl
  simp only [BS, LB, cls, Nat.reduceLT, Nat.reduceEqDiff, Nat.reduceAdd, Nat.reducePow, Nat.reduceDiv, Nat.reduceMod, Nat.reduceLeDiff, Tryz.FFt976]
  first | refine dn_u (store_fl S (i := 0) rfl ?_ ?_ ?_ ono) ?_ | refine dn_u (store_fl S (i := 1) rfl ?_ ?_ ?_ ono) ?_ | refine dn_u (store_fl S (i := 2) rfl ?_ ?_ ?_ ono) ?_ | refine dn_u (store_fl S (i := 3) rfl ?_ ?_ ?_ ono) ?_ | refine dn_u (store_fl S (i := 4) rfl ?_ ?_ ?_ ono) ?_ | refine dn_u (store_fl S (i := 5) rfl ?_ ?_ ?_ ono) ?_ | refine dn_u (store_fl S (i := 6) rfl ?_ ?_ ?_ ono) ?_ | refine dn_u (store_fl S (i := 7) rfl ?_ ?_ ?_ ono) ?_
  · exact (by simp only [Tryz.FFt976])
  · exact (by first | exact fl_int | exact fl_slice | exact fl_ptr | exact fl_bool | exact fl_map | exact fl_func | exact fl_nili | exact fl_iface | exact fl_nilf | exact fl_str | assumption)
  · exact Nat.lt_of_succ_le (lbt rfl)
  clear S; rintro h ⟨S, mo⟩; replace s1 := s1.mo mo a1; replace s2 := s2.mo mo a2; replace s3 := s3.mo mo a3; clear mo; simp only [List.set_cons_zero, List.set_cons_succ, vcells, lay, List.take, List.drop, List.nil_append, List.cons_append, List.append_nil, List.length_cons, List.length_nil, Nat.reduceAdd, Nat.add_zero] at S
  simp only [BS, LB, cls, Nat.reduceLT, Nat.reduceEqDiff, Nat.reduceAdd, Nat.reducePow, Nat.reduceDiv, Nat.reduceMod, Nat.reduceLeDiff, Tryz.FFt976]
  first | refine dn_u (store_fl S (i := 0) rfl ?_ ?_ ?_ ono) ?_ | refine dn_u (store_fl S (i := 1) rfl ?_ ?_ ?_ ono) ?_ | refine dn_u (store_fl S (i := 2) rfl ?_ ?_ ?_ ono) ?_ | refine dn_u (store_fl S (i := 3) rfl ?_ ?_ ?_ ono) ?_ | refine dn_u (store_fl S (i := 4) rfl ?_ ?_ ?_ ono) ?_ | refine dn_u (store_fl S (i := 5) rfl ?_ ?_ ?_ ono) ?_ | refine dn_u (store_fl S (i := 6) rfl ?_ ?_ ?_ ono) ?_ | refine dn_u (store_fl S (i := 7) rfl ?_ ?_ ?_ ono) ?_
  · exact (by simp only [Tryz.FFt976])
  · exact (by first | exact fl_int | exact fl_slice | exact fl_ptr | exact fl_bool | exact fl_map | exact fl_func | exact fl_nili | exact fl_iface | exact fl_nilf | exact fl_str | assumption)
  · exact Nat.lt_of_succ_le (lbt rfl)
  clear S; rintro h ⟨S, mo⟩; replace s1 := s1.mo mo a1; replace s2 := s2.mo mo a2; replace s3 := s3.mo mo a3; clear mo; simp only [List.set_cons_zero, List.set_cons_succ, vcells, lay, List.take, List.drop, List.nil_append, List.cons_append, List.append_nil, List.length_cons, List.length_nil, Nat.reduceAdd, Nat.add_zero] at S
  simp only [BS, LB, cls, Nat.reduceLT, Nat.reduceEqDiff, Nat.reduceAdd, Nat.reducePow, Nat.reduceDiv, Nat.reduceMod, Nat.reduceLeDiff, Tryz.FFt976]
  first | refine dn_u (store_fl S (i := 0) rfl ?_ ?_ ?_ ono) ?_ | refine dn_u (store_fl S (i := 1) rfl ?_ ?_ ?_ ono) ?_ | refine dn_u (store_fl S (i := 2) rfl ?_ ?_ ?_ ono) ?_ | refine dn_u (store_fl S (i := 3) rfl ?_ ?_ ?_ ono) ?_ | refine dn_u (store_fl S (i := 4) rfl ?_ ?_ ?_ ono) ?_ | refine dn_u (store_fl S (i := 5) rfl ?_ ?_ ?_ ono) ?_ | refine dn_u (store_fl S (i := 6) rfl ?_ ?_ ?_ ono) ?_ | refine dn_u (store_fl S (i := 7) rfl ?_ ?_ ?_ ono) ?_
  · exact (by simp only [Tryz.FFt976])
  · exact (by first | exact fl_int | exact fl_slice | exact fl_ptr | exact fl_bool | exact fl_map | exact fl_func | exact fl_nili | exact fl_iface | exact fl_nilf | exact fl_str | assumption)
  · exact Nat.lt_of_succ_le (lbt rfl)
  clear S; rintro h ⟨S, mo⟩; replace s1 := s1.mo mo a1; replace s2 := s2.mo mo a2; replace s3 := s3.mo mo a3; clear mo; simp only [List.set_cons_zero, List.set_cons_succ, vcells, lay, List.take, List.drop, List.nil_append, List.cons_append, List.append_nil, List.length_cons, List.length_nil, Nat.reduceAdd, Nat.add_zero] at S
  simp only [BS, LB, Nat.reduceLT, Nat.reduceEqDiff, Nat.reduceAdd, Tryz.FFt976]
  refine ⟨by simp only [pairs_cons, pairs_nil, entry_noted, entry_hit, entry_miss, ne_eq, not_false_eq_true, note_load, note_run, note_alloc, noted_some, ll_tmp, ll_put, setR_at, Nat.reduceLT, Nat.reduceEqDiff, reduceIte, Bool.and_true, argR_zero, ptr_eq, pair_br e1, pair_br e2, pair_br e3, pair_rb e1, pair_rb e2, pair_rb e3], ?_⟩
  simp only [BS, LB, Nat.reduceLT, Nat.reduceEqDiff, S.lds (b := b) (o := 0) (n := 4) (by repeat constructor) (lbt rfl)]
  refine step_u (S.store (i := 0) rfl Tryz.s27 (by intro x e; cases e) rfl (by simp only [vcells, List.take, List.drop, List.all_cons, List.all_nil, f1.2.1, f2.2.1, f3.2.1, Bool.and_true]; rfl) (lbt rfl) ono) ?_
  clear S
  rintro h' ⟨S, g2⟩
  simp only [List.set_cons_zero, List.set_cons_succ, vcells, lay, List.take, List.drop, List.nil_append, List.cons_append, List.append_nil, List.length_cons, List.length_nil, Nat.reduceAdd, Nat.add_zero] at S
  simp only [BS, tupleOf]
  refine ⟨_, rr_cell (by decide) (by simp only [setR_at, ptr_eq, Nat.reduceEqDiff, reduceIte]; exact loadV_aggr Tryz.a27 Tryz.s27 (S.lds (b := b2) (o := 0) (n := 4) m0 (lbt rfl))), ?_⟩
  exact ⟨S.gr, v1, v2, v3, rfl, ⟨s1.mo g2 b1', s2.mo g2 b2', s3.mo g2 b3'⟩, z⟩
end Go.Ab

end
section
namespace Go.Ab
section
variable (A : List Arc) (f : Arc → Nat)
def outs (j v : Nat) : List Nat := (List.range j).filter fun i => decide (f (A.getD i default) = v)
def start : Nat → Nat
  | 0 => 0
  | v + 1 => start v + (outs A f A.length v).length
theorem outs_succ (j v : Nat) : outs A f (j + 1) v = outs A f j v ++ (if f (A.getD j default) = v then [j] else []) := by
  unfold outs
  rw [List.range_succ, List.filter_append]
  congr 1
  by_cases h : f (A.getD j default) = v
  · simp only [List.filter_cons, List.filter_nil, h, decide_true, if_true]
  · simp only [List.filter_cons, List.filter_nil, h, decide_false, if_false, Bool.false_eq_true]
theorem outs_pre {j k : Nat} (h : j ≤ k) (v : Nat) : ∃ l, outs A f k v = outs A f j v ++ l := by
  induction k with
  | zero => have : j = 0 := by omega
            subst this; exact ⟨[], by simp⟩
  | succ k ih =>
    by_cases hk : j = k + 1
    · subst hk; exact ⟨[], by simp⟩
    · obtain ⟨l, hl⟩ := ih (by omega)
      exact ⟨l ++ _, by rw [outs_succ, hl, List.append_assoc]⟩
theorem outs_le {j k : Nat} (h : j ≤ k) (v : Nat) : (outs A f j v).length ≤ (outs A f k v).length := by
  obtain ⟨l, hl⟩ := outs_pre A f h v
  rw [hl, List.length_append]; omega
theorem start_eq (v : Nat) : start A f v = ((List.range A.length).filter fun i => decide (f (A.getD i default) < v)).length := by
  have key : ∀ (l : List Nat) (v : Nat), (l.filter fun i => decide (f (A.getD i default) < v + 1)).length = (l.filter fun i => decide (f (A.getD i default) < v)).length + (l.filter fun i => decide (f (A.getD i default) = v)).length := by
    intro l v
    induction l with
    | nil => rfl
    | cons x l ih =>
      simp only [List.filter_cons]
      by_cases h1 : f (A.getD x default) < v
      · have h2 : f (A.getD x default) < v + 1 := by omega
        have h3 : ¬ f (A.getD x default) = v := by omega
        rw [if_pos (decide_eq_true h2), if_pos (decide_eq_true h1), if_neg (by rw [decide_eq_true_eq]; exact h3), List.length_cons, List.length_cons, ih]; omega
      · by_cases h3 : f (A.getD x default) = v
        · have h2 : f (A.getD x default) < v + 1 := by omega
          rw [if_pos (decide_eq_true h2), if_neg (by rw [decide_eq_true_eq]; exact h1), if_pos (decide_eq_true h3), List.length_cons, List.length_cons, ih]; omega
        · have h2 : ¬ f (A.getD x default) < v + 1 := by omega
          rw [if_neg (by rw [decide_eq_true_eq]; exact h2), if_neg (by rw [decide_eq_true_eq]; exact h1), if_neg (by rw [decide_eq_true_eq]; exact h3), ih]
  induction v with
  | zero => rw [start]; symm; rw [List.length_eq_zero_iff, List.filter_eq_nil_iff]; intro a _; simp only [Nat.not_lt_zero, decide_false, Bool.false_eq_true, not_false_eq_true]
  | succ v ih => rw [start, ih, key]; rfl
theorem start_top (v : Nat) : start A f v + (outs A f A.length v).length ≤ A.length := by
  have := start_eq A f (v + 1)
  rw [start] at this
  rw [this]
  exact Nat.le_trans (List.length_filter_le _ _) (by simp)
theorem start_mono {u v : Nat} (h : u < v) : start A f u + (outs A f A.length u).length ≤ start A f v := by
  induction v with
  | zero => omega
  | succ v ih =>
    rw [start]
    by_cases hu : u = v
    · subst hu; exact Nat.le_refl _
    · have := ih (by omega); omega
theorem start_apart {u v r s : Nat} (hr : r < (outs A f A.length u).length) (hs : s < (outs A f A.length v).length) (h : start A f u + r = start A f v + s) : u = v ∧ r = s := by
  rcases Nat.lt_trichotomy u v with h1 | h1 | h1
  · have := start_mono A f h1; omega
  · subst h1; exact ⟨rfl, by omega⟩
  · have := start_mono A f h1; omega
end
def encN (x : Nat) : List Value := [.int .i64 x]
theorem encN_len (x : Nat) : (encN x).length = 1 := rfl
def RowsAt (h : Hp) (m : Nat) (v : Value) (N : Nat) (R : Nat → List Nat) : Prop :=
  ∃ bv vs, v = .slice (some ⟨bv, 0, none⟩) N N ∧ m ≤ bv ∧ Row h bv vs 1 ∧ vs.length = N ∧ ∀ i, i < N → ∃ w, vs[i]? = some w ∧ SlAt h 1 encN w (R i) ∧ ∀ c, blkOf w c → m ≤ c
theorem RowsAt.mo {M : Nat → Prop} {h h' : Hp} {v : Value} {m N : Nat} {R : Nat → List Nat} (r : RowsAt h m v N R) (g : Mo M h h') (hm : ∀ b, M b → b < m) : RowsAt h' m v N R := by
  obtain ⟨bv, vs, h1, h0, h2, h3, h4⟩ := r
  refine ⟨bv, vs, h1, by omega, g.has (o := .row vs 1) h2 (fun h => by have := hm _ h; omega), h3, fun i hi => ?_⟩
  obtain ⟨w, a, b, c⟩ := h4 i hi
  exact ⟨w, a, b.mo g fun x hx hM => by have := hm _ hM; have := c x hx; omega, fun x hx => by have := c x hx; omega⟩
theorem RowsAt.gr {h h' : Hp} {v : Value} {m N : Nat} {R : Nat → List Nat} (g : Gr h h') (r : RowsAt h m v N R) : RowsAt h' m v N R :=
  r.mo (M := NoM) g.fr (fun _ h => h.elim)
theorem RowsAt.low {h : Hp} {v : Value} {m m' N : Nat} {R : Nat → List Nat} (r : RowsAt h m v N R) (hm : m' ≤ m) : RowsAt h m' v N R := by
  obtain ⟨bv, vs, h1, h0, h2, h3, h4⟩ := r
  exact ⟨bv, vs, h1, by omega, h2, h3, fun i hi => by
    obtain ⟨w, a, b, c⟩ := h4 i hi
    exact ⟨w, a, b, fun x hx => by have := c x hx; omega⟩⟩
structure NetAt (h : Hp) (m : Nat) (p : Value) (γ : Gra) : Prop where
  ex : ∃ b vx vy va vo vi, p = ptrTo b ∧ Row h b [.int .i64 γ.nodes, vx, vy, va, vo, vi] 1 ∧ GraphAt h vx vy va γ ∧ RowsAt h m vo γ.nodes (outs γ.arcs Arc.s γ.arcs.length) ∧ RowsAt h m vi γ.nodes (outs γ.arcs Arc.t γ.arcs.length) ∧ m ≤ b ∧ ∀ c, blkOf vx c ∨ blkOf vy c ∨ blkOf va c → m ≤ c
theorem GraphAt.mo {M : Nat → Prop} {h h' : Hp} {vx vy va : Value} {γ : Gra} (a : GraphAt h vx vy va γ) (g : Mo M h h') (hm : ∀ c, blkOf vx c ∨ blkOf vy c ∨ blkOf va c → ¬ M c) : GraphAt h' vx vy va γ :=
  ⟨a.X.mo g fun c h => hm c (.inl h), a.Y.mo g fun c h => hm c (.inr (.inl h)), a.A.mo g fun c h => hm c (.inr (.inr h))⟩
theorem NetAt.mo {M : Nat → Prop} {h h' : Hp} {m : Nat} {p : Value} {γ : Gra} (n : NetAt h m p γ) (g : Mo M h h') (hm : ∀ b, M b → b < m) : NetAt h' m p γ := by
  obtain ⟨b, vx, vy, va, vo, vi, h1, h2, h3, h4, h5, h6, h7⟩ := n.ex
  exact ⟨b, vx, vy, va, vo, vi, h1, g.has (o := .row _ 1) h2 (fun h => by have := hm _ h; omega), h3.mo g (fun c hc hM => by have := hm _ hM; have := h7 c hc; omega), h4.mo g hm, h5.mo g hm, h6, h7⟩
theorem NetAt.gr {h h' : Hp} {m : Nat} {p : Value} {γ : Gra} (n : NetAt h m p γ) (g : Gr h h') : NetAt h' m p γ := n.mo (M := NoM) g.fr (fun _ h => h.elim)
theorem mapr_set {α : Type} {N k : Nat} {F F' : Nat → α} (hk : ∀ i, i < N → i ≠ k → F' i = F i) : ((List.range N).map F).set k (F' k) = (List.range N).map F' := by
  refine List.ext_getElem? fun i => ?_
  rw [List.getElem?_set]
  by_cases hi : i < N
  · by_cases e : k = i
    · subst e; simp [hi]
    · rw [if_neg e]; simp [hi, hk i hi (Ne.symm e)]
  · by_cases e : k = i
    · subst e; simp [hi]
    · rw [if_neg e]; simp [hi]
theorem mapr_at {α : Type} {N k : Nat} {F : Nat → α} (hk : k < N) : ((List.range N).map F)[k]? = some (F k) := by simp [hk]
end Go.Ab

end

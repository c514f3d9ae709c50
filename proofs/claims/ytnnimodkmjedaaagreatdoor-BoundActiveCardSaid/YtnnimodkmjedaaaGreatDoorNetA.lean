/- Nets, cells, flags: what the functions do (part 1). -/
import Derived.Test.YtnnimodkmjedaaaGreatDoorEnv
set_option maxHeartbeats 4000000
set_option linter.defProp false
set_option linter.unusedVariables false
set_option linter.unusedSimpArgs false
section
namespace Go.Ab
theorem aj {a b : Prop} (x : a) (y : b) : a ∧ b := ⟨x, y⟩
theorem lbt {a b : Nat} (h : Nat.ble a b = true) : a ≤ b := Nat.le_of_ble_eq_true h
theorem ono : (1 : Nat) ≠ 0 := Nat.one_ne_zero
set_option linter.defProp false in
def LB := And.intro @if_true.{1} <| And.intro @if_false.{1} <| And.intro @eq_self.{1} <| And.intro @List.map_cons.{0,0} <| And.intro @List.map_nil.{0,0} <| And.intro @List.append_nil.{0} <| And.intro @List.nil_append.{0} <| And.intro @List.cons_append.{0} <| And.intro @List.getElem?_cons_zero.{0} <| And.intro @List.getElem?_cons_succ.{0} <| And.intro @List.set_cons_zero.{0} <| And.intro @List.set_cons_succ.{0} <| And.intro @List.length_cons.{0} <| And.intro @List.length_nil.{0} <| And.intro @Nat.add_zero <| And.intro @Nat.zero_add <| And.intro @Nat.mul_one <| And.intro @Nat.zero_mul <| And.intro @cond_true.{1} <| And.intro @cond_false.{1} <| And.intro @decide_true <| And.intro @decide_false <| And.intro @Bool.and_true <| And.intro @Bool.and_false <| And.intro @Bool.not_false <| And.intro @Bool.not_true <| And.intro @true_and <| And.intro @and_true <| And.intro @Option.isSome_some.{0} <| @List.map_toArray.{0,0}
open Go.Proofs
theorem Tryz.a1 : Tryz.abEnv.agg 1 = some false := by kernel_rfl
theorem Tryz.s1 : Tryz.abEnv.sz 1 = some 1 := by kernel_rfl
theorem Tryz.z1 : Tryz.abEnv.zero 1 = some [.nilFunc] := by kernel_rfl
theorem Tryz.n1 : ay Tryz.abEnv 1 = some false := by kernel_rfl
theorem Tryz.u2 : Tryz.abEnv.und 2 = some (.int .i64) := by kernel_rfl
theorem Tryz.a2 : Tryz.abEnv.agg 2 = some false := by kernel_rfl
theorem Tryz.s2 : Tryz.abEnv.sz 2 = some 1 := by kernel_rfl
theorem Tryz.z2 : Tryz.abEnv.zero 2 = some [.int .i64 0] := by kernel_rfl
theorem Tryz.i2 : aQ Tryz.abEnv 2 = true := by kernel_rfl
theorem Tryz.e2E : dD Tryz.abEnv 2 8 1 [.int .i64 0] := ⟨⟨_, rfl, by kernel_rfl, by kernel_rfl⟩, Tryz.z2, rfl⟩
theorem Tryz.u3 : Tryz.abEnv.und 3 = some (.int .i64) := by kernel_rfl
theorem Tryz.a3 : Tryz.abEnv.agg 3 = some false := by kernel_rfl
theorem Tryz.s3 : Tryz.abEnv.sz 3 = some 1 := by kernel_rfl
theorem Tryz.z3 : Tryz.abEnv.zero 3 = some [.int .i64 0] := by kernel_rfl
theorem Tryz.i3 : aQ Tryz.abEnv 3 = true := by kernel_rfl
theorem Tryz.e3E : dD Tryz.abEnv 3 8 1 [.int .i64 0] := ⟨⟨_, rfl, by kernel_rfl, by kernel_rfl⟩, Tryz.z3, rfl⟩
theorem Tryz.u4 : Tryz.abEnv.und 4 = some .bool := by kernel_rfl
theorem Tryz.a4 : Tryz.abEnv.agg 4 = some false := by kernel_rfl
theorem Tryz.s4 : Tryz.abEnv.sz 4 = some 1 := by kernel_rfl
theorem Tryz.z4 : Tryz.abEnv.zero 4 = some [.bool false] := by kernel_rfl
theorem Tryz.n4 : ay Tryz.abEnv 4 = some false := by kernel_rfl
theorem Tryz.u5 : Tryz.abEnv.und 5 = some (.int .u8) := by kernel_rfl
theorem Tryz.a5 : Tryz.abEnv.agg 5 = some false := by kernel_rfl
theorem Tryz.s5 : Tryz.abEnv.sz 5 = some 1 := by kernel_rfl
theorem Tryz.z5 : Tryz.abEnv.zero 5 = some [.int .u8 0] := by kernel_rfl
theorem Tryz.i5 : aQ Tryz.abEnv 5 = true := by kernel_rfl
theorem Tryz.e5E : dD Tryz.abEnv 5 1 1 [.int .u8 0] := ⟨⟨_, rfl, by kernel_rfl, by kernel_rfl⟩, Tryz.z5, rfl⟩
theorem Tryz.u6 : Tryz.abEnv.und 6 = some (.int .u8) := by kernel_rfl
theorem Tryz.a6 : Tryz.abEnv.agg 6 = some false := by kernel_rfl
theorem Tryz.s6 : Tryz.abEnv.sz 6 = some 1 := by kernel_rfl
theorem Tryz.z6 : Tryz.abEnv.zero 6 = some [.int .u8 0] := by kernel_rfl
theorem Tryz.i6 : aQ Tryz.abEnv 6 = true := by kernel_rfl
theorem Tryz.a7 : Tryz.abEnv.agg 7 = some true := by kernel_rfl
theorem Tryz.s7 : Tryz.abEnv.sz 7 = some 4 := by kernel_rfl
theorem Tryz.z7 : Tryz.abEnv.zero 7 = some [.int .i64 0, .int .i64 0, .bool false, .int .u8 0] := by kernel_rfl
theorem Tryz.i7 : aQ Tryz.abEnv 7 = true := by kernel_rfl
theorem Tryz.n7 : ay Tryz.abEnv 7 = some false := by kernel_rfl
theorem Tryz.p7 : placesOf Tryz.abEnv 7 = some [(0, 1), (1, 1), (2, 1), (3, 1)] := by kernel_rfl
theorem Tryz.ff7 (b o : Nat) (s : Option Nat) : am Tryz.abEnv 7 (.pointer (some ⟨b, o, s⟩)) 0 = some (.pointer (some ⟨b, o + 0, none⟩)) ∧ am Tryz.abEnv 7 (.pointer (some ⟨b, o, s⟩)) 1 = some (.pointer (some ⟨b, o + 1, none⟩)) ∧ am Tryz.abEnv 7 (.pointer (some ⟨b, o, s⟩)) 2 = some (.pointer (some ⟨b, o + 2, none⟩)) ∧ am Tryz.abEnv 7 (.pointer (some ⟨b, o, s⟩)) 3 = some (.pointer (some ⟨b, o + 3, none⟩)) := ⟨rfl, rfl, rfl, rfl⟩
theorem Tryz.d7 (x0 x1 x2 x3 : Value) : av Tryz.abEnv 7 (.agg ⟨[x0, x1, x2, x3]⟩) 0 = some x0 ∧ av Tryz.abEnv 7 (.agg ⟨[x0, x1, x2, x3]⟩) 1 = some x1 ∧ av Tryz.abEnv 7 (.agg ⟨[x0, x1, x2, x3]⟩) 2 = some x2 ∧ av Tryz.abEnv 7 (.agg ⟨[x0, x1, x2, x3]⟩) 3 = some x3 := ⟨rfl, rfl, rfl, rfl⟩
theorem Tryz.a8 : Tryz.abEnv.agg 8 = some true := by kernel_rfl
theorem Tryz.s8 : Tryz.abEnv.sz 8 = some 4 := by kernel_rfl
theorem Tryz.z8 : Tryz.abEnv.zero 8 = some [.int .i64 0, .int .i64 0, .bool false, .int .u8 0] := by kernel_rfl
theorem Tryz.i8 : aQ Tryz.abEnv 8 = true := by kernel_rfl
theorem Tryz.n8 : ay Tryz.abEnv 8 = some false := by kernel_rfl
theorem Tryz.p8 : placesOf Tryz.abEnv 8 = some [(0, 1), (1, 1), (2, 1), (3, 1)] := by kernel_rfl
theorem Tryz.ff8 (b o : Nat) (s : Option Nat) : am Tryz.abEnv 8 (.pointer (some ⟨b, o, s⟩)) 0 = some (.pointer (some ⟨b, o + 0, none⟩)) ∧ am Tryz.abEnv 8 (.pointer (some ⟨b, o, s⟩)) 1 = some (.pointer (some ⟨b, o + 1, none⟩)) ∧ am Tryz.abEnv 8 (.pointer (some ⟨b, o, s⟩)) 2 = some (.pointer (some ⟨b, o + 2, none⟩)) ∧ am Tryz.abEnv 8 (.pointer (some ⟨b, o, s⟩)) 3 = some (.pointer (some ⟨b, o + 3, none⟩)) := ⟨rfl, rfl, rfl, rfl⟩
theorem Tryz.d8 (x0 x1 x2 x3 : Value) : av Tryz.abEnv 8 (.agg ⟨[x0, x1, x2, x3]⟩) 0 = some x0 ∧ av Tryz.abEnv 8 (.agg ⟨[x0, x1, x2, x3]⟩) 1 = some x1 ∧ av Tryz.abEnv 8 (.agg ⟨[x0, x1, x2, x3]⟩) 2 = some x2 ∧ av Tryz.abEnv 8 (.agg ⟨[x0, x1, x2, x3]⟩) 3 = some x3 := ⟨rfl, rfl, rfl, rfl⟩
theorem Tryz.u9 : Tryz.abEnv.und 9 = some .string := by kernel_rfl
theorem Tryz.a9 : Tryz.abEnv.agg 9 = some false := by kernel_rfl
theorem Tryz.s9 : Tryz.abEnv.sz 9 = some 1 := by kernel_rfl
theorem Tryz.z9 : Tryz.abEnv.zero 9 = some [.string ⟨#[]⟩] := by kernel_rfl
theorem Tryz.n9 : ay Tryz.abEnv 9 = some false := by kernel_rfl
theorem Tryz.u10 : Tryz.abEnv.und 10 = some .string := by kernel_rfl
theorem Tryz.a10 : Tryz.abEnv.agg 10 = some false := by kernel_rfl
theorem Tryz.s10 : Tryz.abEnv.sz 10 = some 1 := by kernel_rfl
theorem Tryz.z10 : Tryz.abEnv.zero 10 = some [.string ⟨#[]⟩] := by kernel_rfl
theorem Tryz.n10 : ay Tryz.abEnv 10 = some false := by kernel_rfl
theorem Tryz.u11 : Tryz.abEnv.und 11 = some .string := by kernel_rfl
theorem Tryz.a11 : Tryz.abEnv.agg 11 = some false := by kernel_rfl
theorem Tryz.s11 : Tryz.abEnv.sz 11 = some 1 := by kernel_rfl
theorem Tryz.z11 : Tryz.abEnv.zero 11 = some [.string ⟨#[]⟩] := by kernel_rfl
theorem Tryz.n11 : ay Tryz.abEnv 11 = some false := by kernel_rfl
theorem Tryz.u12 : Tryz.abEnv.und 12 = some (.int .u64) := by kernel_rfl
theorem Tryz.a12 : Tryz.abEnv.agg 12 = some false := by kernel_rfl
theorem Tryz.s12 : Tryz.abEnv.sz 12 = some 1 := by kernel_rfl
theorem Tryz.z12 : Tryz.abEnv.zero 12 = some [.int .u64 0] := by kernel_rfl
theorem Tryz.i12 : aQ Tryz.abEnv 12 = true := by kernel_rfl
theorem Tryz.a13 : Tryz.abEnv.agg 13 = some true := by kernel_rfl
theorem Tryz.s13 : Tryz.abEnv.sz 13 = some 2 := by kernel_rfl
theorem Tryz.z13 : Tryz.abEnv.zero 13 = some [.string ⟨#[]⟩, .int .u64 0] := by kernel_rfl
theorem Tryz.i13 : aQ Tryz.abEnv 13 = true := by kernel_rfl
theorem Tryz.n13 : ay Tryz.abEnv 13 = some false := by kernel_rfl
theorem Tryz.p13 : placesOf Tryz.abEnv 13 = some [(0, 1), (1, 1)] := by kernel_rfl
theorem Tryz.ff13 (b o : Nat) (s : Option Nat) : am Tryz.abEnv 13 (.pointer (some ⟨b, o, s⟩)) 0 = some (.pointer (some ⟨b, o + 0, none⟩)) ∧ am Tryz.abEnv 13 (.pointer (some ⟨b, o, s⟩)) 1 = some (.pointer (some ⟨b, o + 1, none⟩)) := ⟨rfl, rfl⟩
theorem Tryz.d13 (x0 x1 : Value) : av Tryz.abEnv 13 (.agg ⟨[x0, x1]⟩) 0 = some x0 ∧ av Tryz.abEnv 13 (.agg ⟨[x0, x1]⟩) 1 = some x1 := ⟨rfl, rfl⟩
theorem Tryz.a14 : Tryz.abEnv.agg 14 = some true := by kernel_rfl
theorem Tryz.s14 : Tryz.abEnv.sz 14 = some 2 := by kernel_rfl
theorem Tryz.z14 : Tryz.abEnv.zero 14 = some [.string ⟨#[]⟩, .int .u64 0] := by kernel_rfl
theorem Tryz.i14 : aQ Tryz.abEnv 14 = true := by kernel_rfl
theorem Tryz.n14 : ay Tryz.abEnv 14 = some false := by kernel_rfl
theorem Tryz.p14 : placesOf Tryz.abEnv 14 = some [(0, 1), (1, 1)] := by kernel_rfl
theorem Tryz.ff14 (b o : Nat) (s : Option Nat) : am Tryz.abEnv 14 (.pointer (some ⟨b, o, s⟩)) 0 = some (.pointer (some ⟨b, o + 0, none⟩)) ∧ am Tryz.abEnv 14 (.pointer (some ⟨b, o, s⟩)) 1 = some (.pointer (some ⟨b, o + 1, none⟩)) := ⟨rfl, rfl⟩
theorem Tryz.d14 (x0 x1 : Value) : av Tryz.abEnv 14 (.agg ⟨[x0, x1]⟩) 0 = some x0 ∧ av Tryz.abEnv 14 (.agg ⟨[x0, x1]⟩) 1 = some x1 := ⟨rfl, rfl⟩
theorem Tryz.u15 : Tryz.abEnv.und 15 = some (.pointer 300) := by kernel_rfl
theorem Tryz.a15 : Tryz.abEnv.agg 15 = some false := by kernel_rfl
theorem Tryz.s15 : Tryz.abEnv.sz 15 = some 1 := by kernel_rfl
theorem Tryz.z15 : Tryz.abEnv.zero 15 = some [.pointer none] := by kernel_rfl
theorem Tryz.q15 : eS Tryz.abEnv 15 = true := by kernel_rfl
theorem Tryz.i15 : aQ Tryz.abEnv 15 = true := by kernel_rfl
theorem Tryz.n15 : ay Tryz.abEnv 15 = some false := by kernel_rfl
theorem Tryz.u16 : Tryz.abEnv.und 16 = some (.pointer 303) := by kernel_rfl
theorem Tryz.a16 : Tryz.abEnv.agg 16 = some false := by kernel_rfl
theorem Tryz.s16 : Tryz.abEnv.sz 16 = some 1 := by kernel_rfl
theorem Tryz.z16 : Tryz.abEnv.zero 16 = some [.pointer none] := by kernel_rfl
theorem Tryz.q16 : eS Tryz.abEnv 16 = true := by kernel_rfl
theorem Tryz.i16 : aQ Tryz.abEnv 16 = true := by kernel_rfl
theorem Tryz.n16 : ay Tryz.abEnv 16 = some false := by kernel_rfl
theorem Tryz.u17 : Tryz.abEnv.und 17 = some (.pointer 310) := by kernel_rfl
theorem Tryz.a17 : Tryz.abEnv.agg 17 = some false := by kernel_rfl
theorem Tryz.s17 : Tryz.abEnv.sz 17 = some 1 := by kernel_rfl
theorem Tryz.z17 : Tryz.abEnv.zero 17 = some [.pointer none] := by kernel_rfl
theorem Tryz.q17 : eS Tryz.abEnv 17 = true := by kernel_rfl
theorem Tryz.i17 : aQ Tryz.abEnv 17 = true := by kernel_rfl
theorem Tryz.n17 : ay Tryz.abEnv 17 = some false := by kernel_rfl
theorem Tryz.a18 : Tryz.abEnv.agg 18 = some true := by kernel_rfl
theorem Tryz.s18 : Tryz.abEnv.sz 18 = some 1 := by kernel_rfl
theorem Tryz.z18 : Tryz.abEnv.zero 18 = some [.pointer none] := by kernel_rfl
theorem Tryz.i18 : aQ Tryz.abEnv 18 = true := by kernel_rfl
theorem Tryz.n18 : ay Tryz.abEnv 18 = some false := by kernel_rfl
theorem Tryz.p18 : placesOf Tryz.abEnv 18 = some [(0, 1)] := by kernel_rfl
theorem Tryz.ff18 (b o : Nat) (s : Option Nat) : am Tryz.abEnv 18 (.pointer (some ⟨b, o, s⟩)) 0 = some (.pointer (some ⟨b, o + 0, none⟩)) := rfl
theorem Tryz.d18 (x0 : Value) : av Tryz.abEnv 18 (.agg ⟨[x0]⟩) 0 = some x0 := rfl
theorem Tryz.a19 : Tryz.abEnv.agg 19 = some true := by kernel_rfl
theorem Tryz.s19 : Tryz.abEnv.sz 19 = some 1 := by kernel_rfl
theorem Tryz.z19 : Tryz.abEnv.zero 19 = some [.pointer none] := by kernel_rfl
theorem Tryz.i19 : aQ Tryz.abEnv 19 = true := by kernel_rfl
theorem Tryz.n19 : ay Tryz.abEnv 19 = some false := by kernel_rfl
theorem Tryz.p19 : placesOf Tryz.abEnv 19 = some [(0, 1)] := by kernel_rfl
theorem Tryz.ff19 (b o : Nat) (s : Option Nat) : am Tryz.abEnv 19 (.pointer (some ⟨b, o, s⟩)) 0 = some (.pointer (some ⟨b, o + 0, none⟩)) := rfl
theorem Tryz.d19 (x0 : Value) : av Tryz.abEnv 19 (.agg ⟨[x0]⟩) 0 = some x0 := rfl
theorem Tryz.a20 : Tryz.abEnv.agg 20 = some false := by kernel_rfl
theorem Tryz.s20 : Tryz.abEnv.sz 20 = some 1 := by kernel_rfl
theorem Tryz.z20 : Tryz.abEnv.zero 20 = some [.nilIface] := by kernel_rfl
theorem Tryz.q20 : isIface Tryz.abEnv 20 = true := by kernel_rfl
theorem Tryz.n20 : ay Tryz.abEnv 20 = some false := by kernel_rfl
theorem Tryz.u21 : Tryz.abEnv.und 21 = some (.int .i32) := by kernel_rfl
theorem Tryz.a21 : Tryz.abEnv.agg 21 = some false := by kernel_rfl
theorem Tryz.s21 : Tryz.abEnv.sz 21 = some 1 := by kernel_rfl
theorem Tryz.z21 : Tryz.abEnv.zero 21 = some [.int .i32 0] := by kernel_rfl
theorem Tryz.i21 : aQ Tryz.abEnv 21 = true := by kernel_rfl
theorem Tryz.u22 : Tryz.abEnv.und 22 = some (.slice 5) := by kernel_rfl
theorem Tryz.a22 : Tryz.abEnv.agg 22 = some false := by kernel_rfl
theorem Tryz.s22 : Tryz.abEnv.sz 22 = some 1 := by kernel_rfl
theorem Tryz.z22 : Tryz.abEnv.zero 22 = some [.slice none 0 0] := by kernel_rfl
theorem Tryz.q22 : i9 Tryz.abEnv 22 = true := by kernel_rfl
theorem Tryz.n22 : ay Tryz.abEnv 22 = some false := by kernel_rfl
theorem Tryz.u23 : Tryz.abEnv.und 23 = some (.array 2 5) := by kernel_rfl
theorem Tryz.a23 : Tryz.abEnv.agg 23 = some true := by kernel_rfl
theorem Tryz.s23 : Tryz.abEnv.sz 23 = some 2 := by kernel_rfl
theorem Tryz.z23 : Tryz.abEnv.zero 23 = some [.int .u8 0, .int .u8 0] := by kernel_rfl
theorem Tryz.n23 : ay Tryz.abEnv 23 = some false := by kernel_rfl
theorem Tryz.u24 : Tryz.abEnv.und 24 = some (.array 3 5) := by kernel_rfl
theorem Tryz.a24 : Tryz.abEnv.agg 24 = some true := by kernel_rfl
theorem Tryz.s24 : Tryz.abEnv.sz 24 = some 3 := by kernel_rfl
theorem Tryz.z24 : Tryz.abEnv.zero 24 = some [.int .u8 0, .int .u8 0, .int .u8 0] := by kernel_rfl
theorem Tryz.n24 : ay Tryz.abEnv 24 = some false := by kernel_rfl
theorem Tryz.u25 : Tryz.abEnv.und 25 = some (.slice 2) := by kernel_rfl
theorem Tryz.a25 : Tryz.abEnv.agg 25 = some false := by kernel_rfl
theorem Tryz.s25 : Tryz.abEnv.sz 25 = some 1 := by kernel_rfl
theorem Tryz.z25 : Tryz.abEnv.zero 25 = some [.slice none 0 0] := by kernel_rfl
theorem Tryz.q25 : i9 Tryz.abEnv 25 = true := by kernel_rfl
theorem Tryz.n25 : ay Tryz.abEnv 25 = some false := by kernel_rfl
theorem Tryz.e25E : dD Tryz.abEnv 25 24 1 [.slice none 0 0] := ⟨⟨_, rfl, by kernel_rfl, by kernel_rfl⟩, Tryz.z25, rfl⟩
theorem Tryz.a26 : Tryz.abEnv.agg 26 = some true := by kernel_rfl
theorem Tryz.s26 : Tryz.abEnv.sz 26 = some 7 := by kernel_rfl
theorem Tryz.z26 : Tryz.abEnv.zero 26 = some [.slice none 0 0, .int .u8 0, .int .u8 0, .int .u8 0, .int .u8 0, .int .u8 0, .slice none 0 0] := by kernel_rfl
theorem Tryz.i26 : aQ Tryz.abEnv 26 = true := by kernel_rfl
theorem Tryz.n26 : ay Tryz.abEnv 26 = some false := by kernel_rfl
theorem Tryz.p26 : placesOf Tryz.abEnv 26 = some [(0, 1), (1, 2), (3, 3), (6, 1)] := by kernel_rfl
theorem Tryz.ff26 (b o : Nat) (s : Option Nat) : am Tryz.abEnv 26 (.pointer (some ⟨b, o, s⟩)) 0 = some (.pointer (some ⟨b, o + 0, none⟩)) ∧ am Tryz.abEnv 26 (.pointer (some ⟨b, o, s⟩)) 1 = some (.pointer (some ⟨b, o + 1, none⟩)) ∧ am Tryz.abEnv 26 (.pointer (some ⟨b, o, s⟩)) 2 = some (.pointer (some ⟨b, o + 3, none⟩)) ∧ am Tryz.abEnv 26 (.pointer (some ⟨b, o, s⟩)) 3 = some (.pointer (some ⟨b, o + 6, none⟩)) := ⟨rfl, rfl, rfl, rfl⟩
theorem Tryz.d26 (x0 x1 x2 x3 x4 x5 x6 : Value) : av Tryz.abEnv 26 (.agg ⟨[x0, x1, x2, x3, x4, x5, x6]⟩) 0 = some x0 ∧ av Tryz.abEnv 26 (.agg ⟨[x0, x1, x2, x3, x4, x5, x6]⟩) 1 = some (.agg ⟨[x1, x2]⟩) ∧ av Tryz.abEnv 26 (.agg ⟨[x0, x1, x2, x3, x4, x5, x6]⟩) 2 = some (.agg ⟨[x3, x4, x5]⟩) ∧ av Tryz.abEnv 26 (.agg ⟨[x0, x1, x2, x3, x4, x5, x6]⟩) 3 = some x6 := ⟨rfl, rfl, rfl, rfl⟩
theorem Tryz.a27 : Tryz.abEnv.agg 27 = some true := by kernel_rfl
theorem Tryz.s27 : Tryz.abEnv.sz 27 = some 7 := by kernel_rfl
theorem Tryz.z27 : Tryz.abEnv.zero 27 = some [.slice none 0 0, .int .u8 0, .int .u8 0, .int .u8 0, .int .u8 0, .int .u8 0, .slice none 0 0] := by kernel_rfl
theorem Tryz.i27 : aQ Tryz.abEnv 27 = true := by kernel_rfl
theorem Tryz.n27 : ay Tryz.abEnv 27 = some false := by kernel_rfl
theorem Tryz.p27 : placesOf Tryz.abEnv 27 = some [(0, 1), (1, 2), (3, 3), (6, 1)] := by kernel_rfl
theorem Tryz.ff27 (b o : Nat) (s : Option Nat) : am Tryz.abEnv 27 (.pointer (some ⟨b, o, s⟩)) 0 = some (.pointer (some ⟨b, o + 0, none⟩)) ∧ am Tryz.abEnv 27 (.pointer (some ⟨b, o, s⟩)) 1 = some (.pointer (some ⟨b, o + 1, none⟩)) ∧ am Tryz.abEnv 27 (.pointer (some ⟨b, o, s⟩)) 2 = some (.pointer (some ⟨b, o + 3, none⟩)) ∧ am Tryz.abEnv 27 (.pointer (some ⟨b, o, s⟩)) 3 = some (.pointer (some ⟨b, o + 6, none⟩)) := ⟨rfl, rfl, rfl, rfl⟩
theorem Tryz.d27 (x0 x1 x2 x3 x4 x5 x6 : Value) : av Tryz.abEnv 27 (.agg ⟨[x0, x1, x2, x3, x4, x5, x6]⟩) 0 = some x0 ∧ av Tryz.abEnv 27 (.agg ⟨[x0, x1, x2, x3, x4, x5, x6]⟩) 1 = some (.agg ⟨[x1, x2]⟩) ∧ av Tryz.abEnv 27 (.agg ⟨[x0, x1, x2, x3, x4, x5, x6]⟩) 2 = some (.agg ⟨[x3, x4, x5]⟩) ∧ av Tryz.abEnv 27 (.agg ⟨[x0, x1, x2, x3, x4, x5, x6]⟩) 3 = some x6 := ⟨rfl, rfl, rfl, rfl⟩
theorem Tryz.a28 : Tryz.abEnv.agg 28 = some false := by kernel_rfl
theorem Tryz.s28 : Tryz.abEnv.sz 28 = some 1 := by kernel_rfl
theorem Tryz.z28 : Tryz.abEnv.zero 28 = some [.nilFunc] := by kernel_rfl
theorem Tryz.n28 : ay Tryz.abEnv 28 = some false := by kernel_rfl
theorem Tryz.u29 : Tryz.abEnv.und 29 = some (.slice 56) := by kernel_rfl
theorem Tryz.a29 : Tryz.abEnv.agg 29 = some false := by kernel_rfl
theorem Tryz.s29 : Tryz.abEnv.sz 29 = some 1 := by kernel_rfl
theorem Tryz.z29 : Tryz.abEnv.zero 29 = some [.slice none 0 0] := by kernel_rfl
theorem Tryz.q29 : i9 Tryz.abEnv 29 = true := by kernel_rfl
theorem Tryz.n29 : ay Tryz.abEnv 29 = some false := by kernel_rfl
theorem Tryz.a30 : Tryz.abEnv.agg 30 = some true := by kernel_rfl
theorem Tryz.s30 : Tryz.abEnv.sz 30 = some 4 := by kernel_rfl
theorem Tryz.z30 : Tryz.abEnv.zero 30 = some [.int .i64 0, .slice none 0 0, .slice none 0 0, .slice none 0 0] := by kernel_rfl
theorem Tryz.i30 : aQ Tryz.abEnv 30 = true := by kernel_rfl
theorem Tryz.n30 : ay Tryz.abEnv 30 = some false := by kernel_rfl
theorem Tryz.p30 : placesOf Tryz.abEnv 30 = some [(0, 1), (1, 1), (2, 1), (3, 1)] := by kernel_rfl
theorem Tryz.ff30 (b o : Nat) (s : Option Nat) : am Tryz.abEnv 30 (.pointer (some ⟨b, o, s⟩)) 0 = some (.pointer (some ⟨b, o + 0, none⟩)) ∧ am Tryz.abEnv 30 (.pointer (some ⟨b, o, s⟩)) 1 = some (.pointer (some ⟨b, o + 1, none⟩)) ∧ am Tryz.abEnv 30 (.pointer (some ⟨b, o, s⟩)) 2 = some (.pointer (some ⟨b, o + 2, none⟩)) ∧ am Tryz.abEnv 30 (.pointer (some ⟨b, o, s⟩)) 3 = some (.pointer (some ⟨b, o + 3, none⟩)) := ⟨rfl, rfl, rfl, rfl⟩
theorem Tryz.d30 (x0 x1 x2 x3 : Value) : av Tryz.abEnv 30 (.agg ⟨[x0, x1, x2, x3]⟩) 0 = some x0 ∧ av Tryz.abEnv 30 (.agg ⟨[x0, x1, x2, x3]⟩) 1 = some x1 ∧ av Tryz.abEnv 30 (.agg ⟨[x0, x1, x2, x3]⟩) 2 = some x2 ∧ av Tryz.abEnv 30 (.agg ⟨[x0, x1, x2, x3]⟩) 3 = some x3 := ⟨rfl, rfl, rfl, rfl⟩
theorem Tryz.a31 : Tryz.abEnv.agg 31 = some true := by kernel_rfl
theorem Tryz.s31 : Tryz.abEnv.sz 31 = some 4 := by kernel_rfl
theorem Tryz.z31 : Tryz.abEnv.zero 31 = some [.int .i64 0, .slice none 0 0, .slice none 0 0, .slice none 0 0] := by kernel_rfl
theorem Tryz.i31 : aQ Tryz.abEnv 31 = true := by kernel_rfl
theorem Tryz.n31 : ay Tryz.abEnv 31 = some false := by kernel_rfl
theorem Tryz.p31 : placesOf Tryz.abEnv 31 = some [(0, 1), (1, 1), (2, 1), (3, 1)] := by kernel_rfl
theorem Tryz.ff31 (b o : Nat) (s : Option Nat) : am Tryz.abEnv 31 (.pointer (some ⟨b, o, s⟩)) 0 = some (.pointer (some ⟨b, o + 0, none⟩)) ∧ am Tryz.abEnv 31 (.pointer (some ⟨b, o, s⟩)) 1 = some (.pointer (some ⟨b, o + 1, none⟩)) ∧ am Tryz.abEnv 31 (.pointer (some ⟨b, o, s⟩)) 2 = some (.pointer (some ⟨b, o + 2, none⟩)) ∧ am Tryz.abEnv 31 (.pointer (some ⟨b, o, s⟩)) 3 = some (.pointer (some ⟨b, o + 3, none⟩)) := ⟨rfl, rfl, rfl, rfl⟩
theorem Tryz.d31 (x0 x1 x2 x3 : Value) : av Tryz.abEnv 31 (.agg ⟨[x0, x1, x2, x3]⟩) 0 = some x0 ∧ av Tryz.abEnv 31 (.agg ⟨[x0, x1, x2, x3]⟩) 1 = some x1 ∧ av Tryz.abEnv 31 (.agg ⟨[x0, x1, x2, x3]⟩) 2 = some x2 ∧ av Tryz.abEnv 31 (.agg ⟨[x0, x1, x2, x3]⟩) 3 = some x3 := ⟨rfl, rfl, rfl, rfl⟩
theorem Tryz.u33 : Tryz.abEnv.und 33 = some (.pointer 165) := by kernel_rfl
theorem Tryz.a33 : Tryz.abEnv.agg 33 = some false := by kernel_rfl
theorem Tryz.s33 : Tryz.abEnv.sz 33 = some 1 := by kernel_rfl
theorem Tryz.z33 : Tryz.abEnv.zero 33 = some [.pointer none] := by kernel_rfl
theorem Tryz.q33 : eS Tryz.abEnv 33 = true := by kernel_rfl
theorem Tryz.i33 : aQ Tryz.abEnv 33 = true := by kernel_rfl
theorem Tryz.n33 : ay Tryz.abEnv 33 = some false := by kernel_rfl
theorem Tryz.a35 : Tryz.abEnv.agg 35 = some false := by kernel_rfl
theorem Tryz.s35 : Tryz.abEnv.sz 35 = some 1 := by kernel_rfl
theorem Tryz.z35 : Tryz.abEnv.zero 35 = some [.nilIface] := by kernel_rfl
theorem Tryz.q35 : isIface Tryz.abEnv 35 = true := by kernel_rfl
theorem Tryz.n35 : ay Tryz.abEnv 35 = some false := by kernel_rfl
theorem Tryz.u43 : Tryz.abEnv.und 43 = some (.slice 3) := by kernel_rfl
theorem Tryz.a43 : Tryz.abEnv.agg 43 = some false := by kernel_rfl
theorem Tryz.s43 : Tryz.abEnv.sz 43 = some 1 := by kernel_rfl
theorem Tryz.z43 : Tryz.abEnv.zero 43 = some [.slice none 0 0] := by kernel_rfl
theorem Tryz.q43 : i9 Tryz.abEnv 43 = true := by kernel_rfl
theorem Tryz.n43 : ay Tryz.abEnv 43 = some false := by kernel_rfl
theorem Tryz.e43E : dD Tryz.abEnv 43 24 1 [.slice none 0 0] := ⟨⟨_, rfl, by kernel_rfl, by kernel_rfl⟩, Tryz.z43, rfl⟩
theorem Tryz.u47 : Tryz.abEnv.und 47 = some (.int .i64) := by kernel_rfl
theorem Tryz.a47 : Tryz.abEnv.agg 47 = some false := by kernel_rfl
theorem Tryz.s47 : Tryz.abEnv.sz 47 = some 1 := by kernel_rfl
theorem Tryz.z47 : Tryz.abEnv.zero 47 = some [.int .i64 0] := by kernel_rfl
theorem Tryz.i47 : aQ Tryz.abEnv 47 = true := by kernel_rfl
theorem Tryz.a56 : Tryz.abEnv.agg 56 = some true := by kernel_rfl
theorem Tryz.s56 : Tryz.abEnv.sz 56 = some 3 := by kernel_rfl
theorem Tryz.z56 : Tryz.abEnv.zero 56 = some [.int .i64 0, .int .i64 0, .int .i64 0] := by kernel_rfl
theorem Tryz.i56 : aQ Tryz.abEnv 56 = true := by kernel_rfl
theorem Tryz.n56 : ay Tryz.abEnv 56 = some false := by kernel_rfl
theorem Tryz.p56 : placesOf Tryz.abEnv 56 = some [(0, 1), (1, 1), (2, 1)] := by kernel_rfl
theorem Tryz.ff56 (b o : Nat) (s : Option Nat) : am Tryz.abEnv 56 (.pointer (some ⟨b, o, s⟩)) 0 = some (.pointer (some ⟨b, o + 0, none⟩)) ∧ am Tryz.abEnv 56 (.pointer (some ⟨b, o, s⟩)) 1 = some (.pointer (some ⟨b, o + 1, none⟩)) ∧ am Tryz.abEnv 56 (.pointer (some ⟨b, o, s⟩)) 2 = some (.pointer (some ⟨b, o + 2, none⟩)) := ⟨rfl, rfl, rfl⟩
theorem Tryz.d56 (x0 x1 x2 : Value) : av Tryz.abEnv 56 (.agg ⟨[x0, x1, x2]⟩) 0 = some x0 ∧ av Tryz.abEnv 56 (.agg ⟨[x0, x1, x2]⟩) 1 = some x1 ∧ av Tryz.abEnv 56 (.agg ⟨[x0, x1, x2]⟩) 2 = some x2 := ⟨rfl, rfl, rfl⟩
theorem Tryz.e56E : dD Tryz.abEnv 56 24 3 [.int .i64 0, .int .i64 0, .int .i64 0] := ⟨⟨_, rfl, by kernel_rfl, by kernel_rfl⟩, Tryz.z56, rfl⟩
theorem Tryz.u156 : Tryz.abEnv.und 156 = some (.pointer 5) := by kernel_rfl
theorem Tryz.a156 : Tryz.abEnv.agg 156 = some false := by kernel_rfl
theorem Tryz.s156 : Tryz.abEnv.sz 156 = some 1 := by kernel_rfl
theorem Tryz.z156 : Tryz.abEnv.zero 156 = some [.pointer none] := by kernel_rfl
theorem Tryz.q156 : eS Tryz.abEnv 156 = true := by kernel_rfl
theorem Tryz.i156 : aQ Tryz.abEnv 156 = true := by kernel_rfl
theorem Tryz.n156 : ay Tryz.abEnv 156 = some false := by kernel_rfl
theorem Tryz.u163 : Tryz.abEnv.und 163 = some (.slice 43) := by kernel_rfl
theorem Tryz.a163 : Tryz.abEnv.agg 163 = some false := by kernel_rfl
theorem Tryz.s163 : Tryz.abEnv.sz 163 = some 1 := by kernel_rfl
theorem Tryz.z163 : Tryz.abEnv.zero 163 = some [.slice none 0 0] := by kernel_rfl
theorem Tryz.q163 : i9 Tryz.abEnv 163 = true := by kernel_rfl
theorem Tryz.n163 : ay Tryz.abEnv 163 = some false := by kernel_rfl
theorem Tryz.a165 : Tryz.abEnv.agg 165 = some true := by kernel_rfl
theorem Tryz.s165 : Tryz.abEnv.sz 165 = some 6 := by kernel_rfl
theorem Tryz.z165 : Tryz.abEnv.zero 165 = some [.int .i64 0, .slice none 0 0, .slice none 0 0, .slice none 0 0, .slice none 0 0, .slice none 0 0] := by kernel_rfl
theorem Tryz.i165 : aQ Tryz.abEnv 165 = true := by kernel_rfl
theorem Tryz.n165 : ay Tryz.abEnv 165 = some false := by kernel_rfl
theorem Tryz.p165 : placesOf Tryz.abEnv 165 = some [(0, 4), (4, 1), (5, 1)] := by kernel_rfl
theorem Tryz.ff165 (b o : Nat) (s : Option Nat) : am Tryz.abEnv 165 (.pointer (some ⟨b, o, s⟩)) 0 = some (.pointer (some ⟨b, o + 0, none⟩)) ∧ am Tryz.abEnv 165 (.pointer (some ⟨b, o, s⟩)) 1 = some (.pointer (some ⟨b, o + 4, none⟩)) ∧ am Tryz.abEnv 165 (.pointer (some ⟨b, o, s⟩)) 2 = some (.pointer (some ⟨b, o + 5, none⟩)) := ⟨rfl, rfl, rfl⟩
theorem Tryz.d165 (x0 x1 x2 x3 x4 x5 : Value) : av Tryz.abEnv 165 (.agg ⟨[x0, x1, x2, x3, x4, x5]⟩) 0 = some (.agg ⟨[x0, x1, x2, x3]⟩) ∧ av Tryz.abEnv 165 (.agg ⟨[x0, x1, x2, x3, x4, x5]⟩) 1 = some x4 ∧ av Tryz.abEnv 165 (.agg ⟨[x0, x1, x2, x3, x4, x5]⟩) 2 = some x5 := ⟨rfl, rfl, rfl⟩
theorem Tryz.u231 : Tryz.abEnv.und 231 = some (.int .u8) := by kernel_rfl
theorem Tryz.a231 : Tryz.abEnv.agg 231 = some false := by kernel_rfl
theorem Tryz.s231 : Tryz.abEnv.sz 231 = some 1 := by kernel_rfl
theorem Tryz.z231 : Tryz.abEnv.zero 231 = some [.int .u8 0] := by kernel_rfl
theorem Tryz.i231 : aQ Tryz.abEnv 231 = true := by kernel_rfl
theorem Tryz.u283 : Tryz.abEnv.und 283 = some (.int .u32) := by kernel_rfl
theorem Tryz.a283 : Tryz.abEnv.agg 283 = some false := by kernel_rfl
theorem Tryz.s283 : Tryz.abEnv.sz 283 = some 1 := by kernel_rfl
theorem Tryz.z283 : Tryz.abEnv.zero 283 = some [.int .u32 0] := by kernel_rfl
theorem Tryz.i283 : aQ Tryz.abEnv 283 = true := by kernel_rfl
theorem Tryz.a300 : Tryz.abEnv.agg 300 = some true := by kernel_rfl
theorem Tryz.s300 : Tryz.abEnv.sz 300 = some 4 := by kernel_rfl
theorem Tryz.z300 : Tryz.abEnv.zero 300 = some [.pointer none, .pointer none, .pointer none, .string ⟨#[]⟩] := by kernel_rfl
theorem Tryz.i300 : aQ Tryz.abEnv 300 = true := by kernel_rfl
theorem Tryz.n300 : ay Tryz.abEnv 300 = some false := by kernel_rfl
theorem Tryz.p300 : placesOf Tryz.abEnv 300 = some [(0, 1), (1, 1), (2, 1), (3, 1)] := by kernel_rfl
theorem Tryz.ff300 (b o : Nat) (s : Option Nat) : am Tryz.abEnv 300 (.pointer (some ⟨b, o, s⟩)) 0 = some (.pointer (some ⟨b, o + 0, none⟩)) ∧ am Tryz.abEnv 300 (.pointer (some ⟨b, o, s⟩)) 1 = some (.pointer (some ⟨b, o + 1, none⟩)) ∧ am Tryz.abEnv 300 (.pointer (some ⟨b, o, s⟩)) 2 = some (.pointer (some ⟨b, o + 2, none⟩)) ∧ am Tryz.abEnv 300 (.pointer (some ⟨b, o, s⟩)) 3 = some (.pointer (some ⟨b, o + 3, none⟩)) := ⟨rfl, rfl, rfl, rfl⟩
theorem Tryz.d300 (x0 x1 x2 x3 : Value) : av Tryz.abEnv 300 (.agg ⟨[x0, x1, x2, x3]⟩) 0 = some x0 ∧ av Tryz.abEnv 300 (.agg ⟨[x0, x1, x2, x3]⟩) 1 = some x1 ∧ av Tryz.abEnv 300 (.agg ⟨[x0, x1, x2, x3]⟩) 2 = some x2 ∧ av Tryz.abEnv 300 (.agg ⟨[x0, x1, x2, x3]⟩) 3 = some x3 := ⟨rfl, rfl, rfl, rfl⟩
theorem Tryz.u301 : Tryz.abEnv.und 301 = some (.array 0 16) := by kernel_rfl
theorem Tryz.a301 : Tryz.abEnv.agg 301 = some true := by kernel_rfl
theorem Tryz.s301 : Tryz.abEnv.sz 301 = some 0 := by kernel_rfl
theorem Tryz.z301 : Tryz.abEnv.zero 301 = some [] := by kernel_rfl
theorem Tryz.n301 : ay Tryz.abEnv 301 = some false := by kernel_rfl
theorem Tryz.a303 : Tryz.abEnv.agg 303 = some true := by kernel_rfl
theorem Tryz.s303 : Tryz.abEnv.sz 303 = some 0 := by kernel_rfl
theorem Tryz.z303 : Tryz.abEnv.zero 303 = some [] := by kernel_rfl
theorem Tryz.i303 : aQ Tryz.abEnv 303 = true := by kernel_rfl
theorem Tryz.n303 : ay Tryz.abEnv 303 = some false := by kernel_rfl
theorem Tryz.u305 : Tryz.abEnv.und 305 = some (.int .u8) := by kernel_rfl
theorem Tryz.a305 : Tryz.abEnv.agg 305 = some false := by kernel_rfl
theorem Tryz.s305 : Tryz.abEnv.sz 305 = some 1 := by kernel_rfl
theorem Tryz.z305 : Tryz.abEnv.zero 305 = some [.int .u8 0] := by kernel_rfl
theorem Tryz.i305 : aQ Tryz.abEnv 305 = true := by kernel_rfl
theorem Tryz.a306 : Tryz.abEnv.agg 306 = some false := by kernel_rfl
theorem Tryz.s306 : Tryz.abEnv.sz 306 = some 1 := by kernel_rfl
theorem Tryz.z306 : Tryz.abEnv.zero 306 = some [.nilFunc] := by kernel_rfl
theorem Tryz.n306 : ay Tryz.abEnv 306 = some false := by kernel_rfl
theorem Tryz.u307 : Tryz.abEnv.und 307 = some (.int .i32) := by kernel_rfl
theorem Tryz.a307 : Tryz.abEnv.agg 307 = some false := by kernel_rfl
theorem Tryz.s307 : Tryz.abEnv.sz 307 = some 1 := by kernel_rfl
theorem Tryz.z307 : Tryz.abEnv.zero 307 = some [.int .i32 0] := by kernel_rfl
theorem Tryz.i307 : aQ Tryz.abEnv 307 = true := by kernel_rfl
theorem Tryz.u308 : Tryz.abEnv.und 308 = some (.int .i32) := by kernel_rfl
theorem Tryz.a308 : Tryz.abEnv.agg 308 = some false := by kernel_rfl
theorem Tryz.s308 : Tryz.abEnv.sz 308 = some 1 := by kernel_rfl
theorem Tryz.z308 : Tryz.abEnv.zero 308 = some [.int .i32 0] := by kernel_rfl
theorem Tryz.i308 : aQ Tryz.abEnv 308 = true := by kernel_rfl
theorem Tryz.a310 : Tryz.abEnv.agg 310 = some true := by kernel_rfl
theorem Tryz.s310 : Tryz.abEnv.sz 310 = some 11 := by kernel_rfl
theorem Tryz.z310 : Tryz.abEnv.zero 310 = some [.int .u64 0, .int .u64 0, .int .u32 0, .int .u8 0, .int .u8 0, .int .u8 0, .int .u8 0, .nilFunc, .pointer none, .int .i32 0, .int .i32 0] := by kernel_rfl
theorem Tryz.i310 : aQ Tryz.abEnv 310 = true := by kernel_rfl
theorem Tryz.n310 : ay Tryz.abEnv 310 = some false := by kernel_rfl
theorem Tryz.p310 : placesOf Tryz.abEnv 310 = some [(0, 1), (1, 1), (2, 1), (3, 1), (4, 1), (5, 1), (6, 1), (7, 1), (8, 1), (9, 1), (10, 1)] := by kernel_rfl
theorem Tryz.ff310 (b o : Nat) (s : Option Nat) : am Tryz.abEnv 310 (.pointer (some ⟨b, o, s⟩)) 0 = some (.pointer (some ⟨b, o + 0, none⟩)) ∧ am Tryz.abEnv 310 (.pointer (some ⟨b, o, s⟩)) 1 = some (.pointer (some ⟨b, o + 1, none⟩)) ∧ am Tryz.abEnv 310 (.pointer (some ⟨b, o, s⟩)) 2 = some (.pointer (some ⟨b, o + 2, none⟩)) ∧ am Tryz.abEnv 310 (.pointer (some ⟨b, o, s⟩)) 3 = some (.pointer (some ⟨b, o + 3, none⟩)) ∧ am Tryz.abEnv 310 (.pointer (some ⟨b, o, s⟩)) 4 = some (.pointer (some ⟨b, o + 4, none⟩)) ∧ am Tryz.abEnv 310 (.pointer (some ⟨b, o, s⟩)) 5 = some (.pointer (some ⟨b, o + 5, none⟩)) ∧ am Tryz.abEnv 310 (.pointer (some ⟨b, o, s⟩)) 6 = some (.pointer (some ⟨b, o + 6, none⟩)) ∧ am Tryz.abEnv 310 (.pointer (some ⟨b, o, s⟩)) 7 = some (.pointer (some ⟨b, o + 7, none⟩)) ∧ am Tryz.abEnv 310 (.pointer (some ⟨b, o, s⟩)) 8 = some (.pointer (some ⟨b, o + 8, none⟩)) ∧ am Tryz.abEnv 310 (.pointer (some ⟨b, o, s⟩)) 9 = some (.pointer (some ⟨b, o + 9, none⟩)) ∧ am Tryz.abEnv 310 (.pointer (some ⟨b, o, s⟩)) 10 = some (.pointer (some ⟨b, o + 10, none⟩)) := ⟨rfl, rfl, rfl, rfl, rfl, rfl, rfl, rfl, rfl, rfl, rfl⟩
theorem Tryz.d310 (x0 x1 x2 x3 x4 x5 x6 x7 x8 x9 x10 : Value) : av Tryz.abEnv 310 (.agg ⟨[x0, x1, x2, x3, x4, x5, x6, x7, x8, x9, x10]⟩) 0 = some x0 ∧ av Tryz.abEnv 310 (.agg ⟨[x0, x1, x2, x3, x4, x5, x6, x7, x8, x9, x10]⟩) 1 = some x1 ∧ av Tryz.abEnv 310 (.agg ⟨[x0, x1, x2, x3, x4, x5, x6, x7, x8, x9, x10]⟩) 2 = some x2 ∧ av Tryz.abEnv 310 (.agg ⟨[x0, x1, x2, x3, x4, x5, x6, x7, x8, x9, x10]⟩) 3 = some x3 ∧ av Tryz.abEnv 310 (.agg ⟨[x0, x1, x2, x3, x4, x5, x6, x7, x8, x9, x10]⟩) 4 = some x4 ∧ av Tryz.abEnv 310 (.agg ⟨[x0, x1, x2, x3, x4, x5, x6, x7, x8, x9, x10]⟩) 5 = some x5 ∧ av Tryz.abEnv 310 (.agg ⟨[x0, x1, x2, x3, x4, x5, x6, x7, x8, x9, x10]⟩) 6 = some x6 ∧ av Tryz.abEnv 310 (.agg ⟨[x0, x1, x2, x3, x4, x5, x6, x7, x8, x9, x10]⟩) 7 = some x7 ∧ av Tryz.abEnv 310 (.agg ⟨[x0, x1, x2, x3, x4, x5, x6, x7, x8, x9, x10]⟩) 8 = some x8 ∧ av Tryz.abEnv 310 (.agg ⟨[x0, x1, x2, x3, x4, x5, x6, x7, x8, x9, x10]⟩) 9 = some x9 ∧ av Tryz.abEnv 310 (.agg ⟨[x0, x1, x2, x3, x4, x5, x6, x7, x8, x9, x10]⟩) 10 = some x10 := ⟨rfl, rfl, rfl, rfl, rfl, rfl, rfl, rfl, rfl, rfl, rfl⟩
theorem Tryz.u59 : Tryz.abEnv.und 59 = some (.slice 60) := by kernel_rfl
theorem Tryz.a59 : Tryz.abEnv.agg 59 = some false := by kernel_rfl
theorem Tryz.s59 : Tryz.abEnv.sz 59 = some 1 := by kernel_rfl
theorem Tryz.z59 : Tryz.abEnv.zero 59 = some [.slice none 0 0] := by kernel_rfl
theorem Tryz.q59 : i9 Tryz.abEnv 59 = true := by kernel_rfl
theorem Tryz.n59 : ay Tryz.abEnv 59 = some false := by kernel_rfl
theorem Tryz.u60 : Tryz.abEnv.und 60 = some (.int .i8) := by kernel_rfl
theorem Tryz.a60 : Tryz.abEnv.agg 60 = some false := by kernel_rfl
theorem Tryz.s60 : Tryz.abEnv.sz 60 = some 1 := by kernel_rfl
theorem Tryz.z60 : Tryz.abEnv.zero 60 = some [.int .i8 0] := by kernel_rfl
theorem Tryz.i60 : aQ Tryz.abEnv 60 = true := by kernel_rfl
theorem Tryz.e60E : dD Tryz.abEnv 60 1 1 [.int .i8 0] := ⟨⟨_, rfl, by kernel_rfl, by kernel_rfl⟩, Tryz.z60, rfl⟩
theorem Tryz.a62 : Tryz.abEnv.agg 62 = some true := by kernel_rfl
theorem Tryz.s62 : Tryz.abEnv.sz 62 = some 6 := by kernel_rfl
theorem Tryz.z62 : Tryz.abEnv.zero 62 = some [.slice none 0 0, .slice none 0 0, .slice none 0 0, .slice none 0 0, .int .i8 0, .int .i8 0] := by kernel_rfl
theorem Tryz.i62 : aQ Tryz.abEnv 62 = true := by kernel_rfl
theorem Tryz.n62 : ay Tryz.abEnv 62 = some false := by kernel_rfl
theorem Tryz.p62 : placesOf Tryz.abEnv 62 = some [(0, 1), (1, 1), (2, 1), (3, 1), (4, 1), (5, 1)] := by kernel_rfl
theorem Tryz.ff62 (b o : Nat) (s : Option Nat) : am Tryz.abEnv 62 (.pointer (some ⟨b, o, s⟩)) 0 = some (.pointer (some ⟨b, o + 0, none⟩)) ∧ am Tryz.abEnv 62 (.pointer (some ⟨b, o, s⟩)) 1 = some (.pointer (some ⟨b, o + 1, none⟩)) ∧ am Tryz.abEnv 62 (.pointer (some ⟨b, o, s⟩)) 2 = some (.pointer (some ⟨b, o + 2, none⟩)) ∧ am Tryz.abEnv 62 (.pointer (some ⟨b, o, s⟩)) 3 = some (.pointer (some ⟨b, o + 3, none⟩)) ∧ am Tryz.abEnv 62 (.pointer (some ⟨b, o, s⟩)) 4 = some (.pointer (some ⟨b, o + 4, none⟩)) ∧ am Tryz.abEnv 62 (.pointer (some ⟨b, o, s⟩)) 5 = some (.pointer (some ⟨b, o + 5, none⟩)) := ⟨rfl, rfl, rfl, rfl, rfl, rfl⟩
theorem Tryz.d62 (x0 x1 x2 x3 x4 x5 : Value) : av Tryz.abEnv 62 (.agg ⟨[x0, x1, x2, x3, x4, x5]⟩) 0 = some x0 ∧ av Tryz.abEnv 62 (.agg ⟨[x0, x1, x2, x3, x4, x5]⟩) 1 = some x1 ∧ av Tryz.abEnv 62 (.agg ⟨[x0, x1, x2, x3, x4, x5]⟩) 2 = some x2 ∧ av Tryz.abEnv 62 (.agg ⟨[x0, x1, x2, x3, x4, x5]⟩) 3 = some x3 ∧ av Tryz.abEnv 62 (.agg ⟨[x0, x1, x2, x3, x4, x5]⟩) 4 = some x4 ∧ av Tryz.abEnv 62 (.agg ⟨[x0, x1, x2, x3, x4, x5]⟩) 5 = some x5 := ⟨rfl, rfl, rfl, rfl, rfl, rfl⟩
theorem Tryz.u65 : Tryz.abEnv.und 65 = some (.pointer 128) := by kernel_rfl
theorem Tryz.a65 : Tryz.abEnv.agg 65 = some false := by kernel_rfl
theorem Tryz.s65 : Tryz.abEnv.sz 65 = some 1 := by kernel_rfl
theorem Tryz.z65 : Tryz.abEnv.zero 65 = some [.pointer none] := by kernel_rfl
theorem Tryz.q65 : eS Tryz.abEnv 65 = true := by kernel_rfl
theorem Tryz.i65 : aQ Tryz.abEnv 65 = true := by kernel_rfl
theorem Tryz.n65 : ay Tryz.abEnv 65 = some false := by kernel_rfl
theorem Tryz.u68 : Tryz.abEnv.und 68 = some (.slice 25) := by kernel_rfl
theorem Tryz.a68 : Tryz.abEnv.agg 68 = some false := by kernel_rfl
theorem Tryz.s68 : Tryz.abEnv.sz 68 = some 1 := by kernel_rfl
theorem Tryz.z68 : Tryz.abEnv.zero 68 = some [.slice none 0 0] := by kernel_rfl
theorem Tryz.q68 : i9 Tryz.abEnv 68 = true := by kernel_rfl
theorem Tryz.n68 : ay Tryz.abEnv 68 = some false := by kernel_rfl
theorem Tryz.u70 : Tryz.abEnv.und 70 = some (.array 2 65) := by kernel_rfl
theorem Tryz.a70 : Tryz.abEnv.agg 70 = some true := by kernel_rfl
theorem Tryz.s70 : Tryz.abEnv.sz 70 = some 2 := by kernel_rfl
theorem Tryz.z70 : Tryz.abEnv.zero 70 = some [.pointer none, .pointer none] := by kernel_rfl
theorem Tryz.n70 : ay Tryz.abEnv 70 = some false := by kernel_rfl
theorem Tryz.a128 : Tryz.abEnv.agg 128 = some true := by kernel_rfl
theorem Tryz.s128 : Tryz.abEnv.sz 128 = some 4 := by kernel_rfl
theorem Tryz.z128 : Tryz.abEnv.zero 128 = some [.int .i64 0, .slice none 0 0, .slice none 0 0, .slice none 0 0] := by kernel_rfl
theorem Tryz.i128 : aQ Tryz.abEnv 128 = true := by kernel_rfl
theorem Tryz.n128 : ay Tryz.abEnv 128 = some false := by kernel_rfl
theorem Tryz.p128 : placesOf Tryz.abEnv 128 = some [(0, 1), (1, 1), (2, 1), (3, 1)] := by kernel_rfl
theorem Tryz.ff128 (b o : Nat) (s : Option Nat) : am Tryz.abEnv 128 (.pointer (some ⟨b, o, s⟩)) 0 = some (.pointer (some ⟨b, o + 0, none⟩)) ∧ am Tryz.abEnv 128 (.pointer (some ⟨b, o, s⟩)) 1 = some (.pointer (some ⟨b, o + 1, none⟩)) ∧ am Tryz.abEnv 128 (.pointer (some ⟨b, o, s⟩)) 2 = some (.pointer (some ⟨b, o + 2, none⟩)) ∧ am Tryz.abEnv 128 (.pointer (some ⟨b, o, s⟩)) 3 = some (.pointer (some ⟨b, o + 3, none⟩)) := ⟨rfl, rfl, rfl, rfl⟩
theorem Tryz.d128 (x0 x1 x2 x3 : Value) : av Tryz.abEnv 128 (.agg ⟨[x0, x1, x2, x3]⟩) 0 = some x0 ∧ av Tryz.abEnv 128 (.agg ⟨[x0, x1, x2, x3]⟩) 1 = some x1 ∧ av Tryz.abEnv 128 (.agg ⟨[x0, x1, x2, x3]⟩) 2 = some x2 ∧ av Tryz.abEnv 128 (.agg ⟨[x0, x1, x2, x3]⟩) 3 = some x3 := ⟨rfl, rfl, rfl, rfl⟩
theorem Tryz.e5 : Tryz.abEnv.fn 5 = some Tryz.f5 := by kernel_rfl
theorem Tryz.u97 : Tryz.abEnv.und 97 = some (.pointer 99) := by kernel_rfl
theorem Tryz.a97 : Tryz.abEnv.agg 97 = some false := by kernel_rfl
theorem Tryz.s97 : Tryz.abEnv.sz 97 = some 1 := by kernel_rfl
theorem Tryz.z97 : Tryz.abEnv.zero 97 = some [.pointer none] := by kernel_rfl
theorem Tryz.q97 : eS Tryz.abEnv 97 = true := by kernel_rfl
theorem Tryz.i97 : aQ Tryz.abEnv 97 = true := by kernel_rfl
theorem Tryz.n97 : ay Tryz.abEnv 97 = some false := by kernel_rfl
theorem Tryz.a99 : Tryz.abEnv.agg 99 = some true := by kernel_rfl
theorem Tryz.s99 : Tryz.abEnv.sz 99 = some 2 := by kernel_rfl
theorem Tryz.z99 : Tryz.abEnv.zero 99 = some [.slice none 0 0, .int .i64 0] := by kernel_rfl
theorem Tryz.i99 : aQ Tryz.abEnv 99 = true := by kernel_rfl
theorem Tryz.n99 : ay Tryz.abEnv 99 = some false := by kernel_rfl
theorem Tryz.p99 : placesOf Tryz.abEnv 99 = some [(0, 1), (1, 1)] := by kernel_rfl
theorem Tryz.ff99 (b o : Nat) (s : Option Nat) : am Tryz.abEnv 99 (.pointer (some ⟨b, o, s⟩)) 0 = some (.pointer (some ⟨b, o + 0, none⟩)) ∧ am Tryz.abEnv 99 (.pointer (some ⟨b, o, s⟩)) 1 = some (.pointer (some ⟨b, o + 1, none⟩)) := ⟨rfl, rfl⟩
theorem Tryz.d99 (x0 x1 : Value) : av Tryz.abEnv 99 (.agg ⟨[x0, x1]⟩) 0 = some x0 ∧ av Tryz.abEnv 99 (.agg ⟨[x0, x1]⟩) 1 = some x1 := ⟨rfl, rfl⟩
theorem Tryz.a102 : Tryz.abEnv.agg 102 = some true := by kernel_rfl
theorem Tryz.s102 : Tryz.abEnv.sz 102 = some 4 := by kernel_rfl
theorem Tryz.z102 : Tryz.abEnv.zero 102 = some [.int .i64 0, .int .i64 0, .int .i64 0, .int .i64 0] := by kernel_rfl
theorem Tryz.i102 : aQ Tryz.abEnv 102 = true := by kernel_rfl
theorem Tryz.n102 : ay Tryz.abEnv 102 = some false := by kernel_rfl
theorem Tryz.p102 : placesOf Tryz.abEnv 102 = some [(0, 1), (1, 1), (2, 1), (3, 1)] := by kernel_rfl
theorem Tryz.ff102 (b o : Nat) (s : Option Nat) : am Tryz.abEnv 102 (.pointer (some ⟨b, o, s⟩)) 0 = some (.pointer (some ⟨b, o + 0, none⟩)) ∧ am Tryz.abEnv 102 (.pointer (some ⟨b, o, s⟩)) 1 = some (.pointer (some ⟨b, o + 1, none⟩)) ∧ am Tryz.abEnv 102 (.pointer (some ⟨b, o, s⟩)) 2 = some (.pointer (some ⟨b, o + 2, none⟩)) ∧ am Tryz.abEnv 102 (.pointer (some ⟨b, o, s⟩)) 3 = some (.pointer (some ⟨b, o + 3, none⟩)) := ⟨rfl, rfl, rfl, rfl⟩
theorem Tryz.d102 (x0 x1 x2 x3 : Value) : av Tryz.abEnv 102 (.agg ⟨[x0, x1, x2, x3]⟩) 0 = some x0 ∧ av Tryz.abEnv 102 (.agg ⟨[x0, x1, x2, x3]⟩) 1 = some x1 ∧ av Tryz.abEnv 102 (.agg ⟨[x0, x1, x2, x3]⟩) 2 = some x2 ∧ av Tryz.abEnv 102 (.agg ⟨[x0, x1, x2, x3]⟩) 3 = some x3 := ⟨rfl, rfl, rfl, rfl⟩
theorem Tryz.u104 : Tryz.abEnv.und 104 = some (.pointer 102) := by kernel_rfl
theorem Tryz.a104 : Tryz.abEnv.agg 104 = some false := by kernel_rfl
theorem Tryz.s104 : Tryz.abEnv.sz 104 = some 1 := by kernel_rfl
theorem Tryz.z104 : Tryz.abEnv.zero 104 = some [.pointer none] := by kernel_rfl
theorem Tryz.q104 : eS Tryz.abEnv 104 = true := by kernel_rfl
theorem Tryz.i104 : aQ Tryz.abEnv 104 = true := by kernel_rfl
theorem Tryz.n104 : ay Tryz.abEnv 104 = some false := by kernel_rfl
theorem Tryz.a106 : Tryz.abEnv.agg 106 = some true := by kernel_rfl
theorem Tryz.s106 : Tryz.abEnv.sz 106 = some 1 := by kernel_rfl
theorem Tryz.z106 : Tryz.abEnv.zero 106 = some [.pointer none] := by kernel_rfl
theorem Tryz.i106 : aQ Tryz.abEnv 106 = true := by kernel_rfl
theorem Tryz.n106 : ay Tryz.abEnv 106 = some false := by kernel_rfl
theorem Tryz.p106 : placesOf Tryz.abEnv 106 = some [(0, 1)] := by kernel_rfl
theorem Tryz.ff106 (b o : Nat) (s : Option Nat) : am Tryz.abEnv 106 (.pointer (some ⟨b, o, s⟩)) 0 = some (.pointer (some ⟨b, o + 0, none⟩)) := rfl
theorem Tryz.d106 (x0 : Value) : av Tryz.abEnv 106 (.agg ⟨[x0]⟩) 0 = some x0 := rfl
theorem Tryz.e11 : Tryz.abEnv.fn 11 = some Tryz.f11 := by kernel_rfl
theorem Tryz.a111 : Tryz.abEnv.agg 111 = some false := by kernel_rfl
theorem Tryz.s111 : Tryz.abEnv.sz 111 = some 1 := by kernel_rfl
theorem Tryz.z111 : Tryz.abEnv.zero 111 = some [.nilFunc] := by kernel_rfl
theorem Tryz.n111 : ay Tryz.abEnv 111 = some false := by kernel_rfl
theorem Tryz.u178 : Tryz.abEnv.und 178 = some (.pointer 239) := by kernel_rfl
theorem Tryz.a178 : Tryz.abEnv.agg 178 = some false := by kernel_rfl
theorem Tryz.s178 : Tryz.abEnv.sz 178 = some 1 := by kernel_rfl
theorem Tryz.z178 : Tryz.abEnv.zero 178 = some [.pointer none] := by kernel_rfl
theorem Tryz.q178 : eS Tryz.abEnv 178 = true := by kernel_rfl
theorem Tryz.i178 : aQ Tryz.abEnv 178 = true := by kernel_rfl
theorem Tryz.n178 : ay Tryz.abEnv 178 = some false := by kernel_rfl
theorem Tryz.e19 : Tryz.abEnv.fn 19 = some Tryz.f19 := by kernel_rfl
theorem Tryz.a124 : Tryz.abEnv.agg 124 = some false := by kernel_rfl
theorem Tryz.s124 : Tryz.abEnv.sz 124 = some 1 := by kernel_rfl
theorem Tryz.z124 : Tryz.abEnv.zero 124 = some [.nilFunc] := by kernel_rfl
theorem Tryz.n124 : ay Tryz.abEnv 124 = some false := by kernel_rfl
theorem Tryz.a126 : Tryz.abEnv.agg 126 = some false := by kernel_rfl
theorem Tryz.s126 : Tryz.abEnv.sz 126 = some 1 := by kernel_rfl
theorem Tryz.z126 : Tryz.abEnv.zero 126 = some [.nilFunc] := by kernel_rfl
theorem Tryz.n126 : ay Tryz.abEnv 126 = some false := by kernel_rfl
theorem Tryz.e20 : Tryz.abEnv.fn 20 = some Tryz.f20 := by kernel_rfl
theorem Tryz.a131 : Tryz.abEnv.agg 131 = some false := by kernel_rfl
theorem Tryz.s131 : Tryz.abEnv.sz 131 = some 1 := by kernel_rfl
theorem Tryz.z131 : Tryz.abEnv.zero 131 = some [.nilFunc] := by kernel_rfl
theorem Tryz.n131 : ay Tryz.abEnv 131 = some false := by kernel_rfl
theorem Tryz.a133 : Tryz.abEnv.agg 133 = some false := by kernel_rfl
theorem Tryz.s133 : Tryz.abEnv.sz 133 = some 1 := by kernel_rfl
theorem Tryz.z133 : Tryz.abEnv.zero 133 = some [.nilFunc] := by kernel_rfl
theorem Tryz.n133 : ay Tryz.abEnv 133 = some false := by kernel_rfl
theorem Tryz.e21 : Tryz.abEnv.fn 21 = some Tryz.f21 := by kernel_rfl
theorem Tryz.e22 : Tryz.abEnv.fn 22 = some Tryz.f22 := by kernel_rfl
theorem Tryz.a137 : Tryz.abEnv.agg 137 = some false := by kernel_rfl
theorem Tryz.s137 : Tryz.abEnv.sz 137 = some 1 := by kernel_rfl
theorem Tryz.z137 : Tryz.abEnv.zero 137 = some [.nilFunc] := by kernel_rfl
theorem Tryz.n137 : ay Tryz.abEnv 137 = some false := by kernel_rfl
theorem Tryz.e23 : Tryz.abEnv.fn 23 = some Tryz.f23 := by kernel_rfl
theorem Tryz.a140 : Tryz.abEnv.agg 140 = some false := by kernel_rfl
theorem Tryz.s140 : Tryz.abEnv.sz 140 = some 1 := by kernel_rfl
theorem Tryz.z140 : Tryz.abEnv.zero 140 = some [.nilFunc] := by kernel_rfl
theorem Tryz.n140 : ay Tryz.abEnv 140 = some false := by kernel_rfl
theorem Tryz.a141 : Tryz.abEnv.agg 141 = some false := by kernel_rfl
theorem Tryz.s141 : Tryz.abEnv.sz 141 = some 1 := by kernel_rfl
theorem Tryz.z141 : Tryz.abEnv.zero 141 = some [.nilFunc] := by kernel_rfl
theorem Tryz.n141 : ay Tryz.abEnv 141 = some false := by kernel_rfl
theorem Tryz.e24 : Tryz.abEnv.fn 24 = some Tryz.f24 := by kernel_rfl
theorem Tryz.e25 : Tryz.abEnv.fn 25 = some Tryz.f25 := by kernel_rfl
theorem Tryz.a145 : Tryz.abEnv.agg 145 = some false := by kernel_rfl
theorem Tryz.s145 : Tryz.abEnv.sz 145 = some 1 := by kernel_rfl
theorem Tryz.z145 : Tryz.abEnv.zero 145 = some [.nilFunc] := by kernel_rfl
theorem Tryz.n145 : ay Tryz.abEnv 145 = some false := by kernel_rfl
theorem Tryz.e43 : Tryz.abEnv.fn 43 = some Tryz.f43 := by kernel_rfl
theorem Tryz.e45 : Tryz.abEnv.fn 45 = some Tryz.f45 := by kernel_rfl
theorem Tryz.e46 : Tryz.abEnv.fn 46 = some Tryz.f46 := by kernel_rfl
theorem Tryz.a173 : Tryz.abEnv.agg 173 = some false := by kernel_rfl
theorem Tryz.s173 : Tryz.abEnv.sz 173 = some 1 := by kernel_rfl
theorem Tryz.z173 : Tryz.abEnv.zero 173 = some [.nilFunc] := by kernel_rfl
theorem Tryz.n173 : ay Tryz.abEnv 173 = some false := by kernel_rfl
theorem Tryz.a174 : Tryz.abEnv.agg 174 = some false := by kernel_rfl
theorem Tryz.s174 : Tryz.abEnv.sz 174 = some 1 := by kernel_rfl
theorem Tryz.z174 : Tryz.abEnv.zero 174 = some [.nilFunc] := by kernel_rfl
theorem Tryz.n174 : ay Tryz.abEnv 174 = some false := by kernel_rfl
theorem Tryz.e48 : Tryz.abEnv.fn 48 = some Tryz.f48 := by kernel_rfl
theorem Tryz.e49 : Tryz.abEnv.fn 49 = some Tryz.f49 := by kernel_rfl
theorem Tryz.a237 : Tryz.abEnv.agg 237 = some true := by kernel_rfl
theorem Tryz.s237 : Tryz.abEnv.sz 237 = some 2 := by kernel_rfl
theorem Tryz.z237 : Tryz.abEnv.zero 237 = some [.slice none 0 0, .map none] := by kernel_rfl
theorem Tryz.i237 : aQ Tryz.abEnv 237 = true := by kernel_rfl
theorem Tryz.n237 : ay Tryz.abEnv 237 = some false := by kernel_rfl
theorem Tryz.p237 : placesOf Tryz.abEnv 237 = some [(0, 1), (1, 1)] := by kernel_rfl
theorem Tryz.ff237 (b o : Nat) (s : Option Nat) : am Tryz.abEnv 237 (.pointer (some ⟨b, o, s⟩)) 0 = some (.pointer (some ⟨b, o + 0, none⟩)) ∧ am Tryz.abEnv 237 (.pointer (some ⟨b, o, s⟩)) 1 = some (.pointer (some ⟨b, o + 1, none⟩)) := ⟨rfl, rfl⟩
theorem Tryz.d237 (x0 x1 : Value) : av Tryz.abEnv 237 (.agg ⟨[x0, x1]⟩) 0 = some x0 ∧ av Tryz.abEnv 237 (.agg ⟨[x0, x1]⟩) 1 = some x1 := ⟨rfl, rfl⟩
theorem Tryz.a239 : Tryz.abEnv.agg 239 = some true := by kernel_rfl
theorem Tryz.s239 : Tryz.abEnv.sz 239 = some 3 := by kernel_rfl
theorem Tryz.z239 : Tryz.abEnv.zero 239 = some [.slice none 0 0, .map none, .int .i64 0] := by kernel_rfl
theorem Tryz.i239 : aQ Tryz.abEnv 239 = true := by kernel_rfl
theorem Tryz.n239 : ay Tryz.abEnv 239 = some false := by kernel_rfl
theorem Tryz.p239 : placesOf Tryz.abEnv 239 = some [(0, 2), (2, 1)] := by kernel_rfl
theorem Tryz.ff239 (b o : Nat) (s : Option Nat) : am Tryz.abEnv 239 (.pointer (some ⟨b, o, s⟩)) 0 = some (.pointer (some ⟨b, o + 0, none⟩)) ∧ am Tryz.abEnv 239 (.pointer (some ⟨b, o, s⟩)) 1 = some (.pointer (some ⟨b, o + 2, none⟩)) := ⟨rfl, rfl⟩
theorem Tryz.d239 (x0 x1 x2 : Value) : av Tryz.abEnv 239 (.agg ⟨[x0, x1, x2]⟩) 0 = some (.agg ⟨[x0, x1]⟩) ∧ av Tryz.abEnv 239 (.agg ⟨[x0, x1, x2]⟩) 1 = some x2 := ⟨rfl, rfl⟩
theorem Tryz.u193 : Tryz.abEnv.und 193 = some (.map 3 3) := by kernel_rfl
theorem Tryz.a193 : Tryz.abEnv.agg 193 = some false := by kernel_rfl
theorem Tryz.s193 : Tryz.abEnv.sz 193 = some 1 := by kernel_rfl
theorem Tryz.z193 : Tryz.abEnv.zero 193 = some [.map none] := by kernel_rfl
theorem Tryz.n193 : ay Tryz.abEnv 193 = some false := by kernel_rfl
theorem Tryz.e62 : Tryz.abEnv.fn 62 = some Tryz.f62 := by kernel_rfl
theorem Tryz.e63 : Tryz.abEnv.fn 63 = some Tryz.f63 := by kernel_rfl
theorem Tryz.e64 : Tryz.abEnv.fn 64 = some Tryz.f64 := by kernel_rfl
theorem Tryz.e65 : Tryz.abEnv.fn 65 = some Tryz.f65 := by kernel_rfl
theorem Tryz.a86 : Tryz.abEnv.agg 86 = some false := by kernel_rfl
theorem Tryz.s86 : Tryz.abEnv.sz 86 = some 1 := by kernel_rfl
theorem Tryz.z86 : Tryz.abEnv.zero 86 = some [.nilFunc] := by kernel_rfl
theorem Tryz.n86 : ay Tryz.abEnv 86 = some false := by kernel_rfl
theorem Tryz.a197 : Tryz.abEnv.agg 197 = some true := by kernel_rfl
theorem Tryz.s197 : Tryz.abEnv.sz 197 = some 3 := by kernel_rfl
theorem Tryz.z197 : Tryz.abEnv.zero 197 = some [.slice none 0 0, .slice none 0 0, .slice none 0 0] := by kernel_rfl
theorem Tryz.i197 : aQ Tryz.abEnv 197 = true := by kernel_rfl
theorem Tryz.n197 : ay Tryz.abEnv 197 = some false := by kernel_rfl
theorem Tryz.p197 : placesOf Tryz.abEnv 197 = some [(0, 1), (1, 1), (2, 1)] := by kernel_rfl
theorem Tryz.ff197 (b o : Nat) (s : Option Nat) : am Tryz.abEnv 197 (.pointer (some ⟨b, o, s⟩)) 0 = some (.pointer (some ⟨b, o + 0, none⟩)) ∧ am Tryz.abEnv 197 (.pointer (some ⟨b, o, s⟩)) 1 = some (.pointer (some ⟨b, o + 1, none⟩)) ∧ am Tryz.abEnv 197 (.pointer (some ⟨b, o, s⟩)) 2 = some (.pointer (some ⟨b, o + 2, none⟩)) := ⟨rfl, rfl, rfl⟩
theorem Tryz.d197 (x0 x1 x2 : Value) : av Tryz.abEnv 197 (.agg ⟨[x0, x1, x2]⟩) 0 = some x0 ∧ av Tryz.abEnv 197 (.agg ⟨[x0, x1, x2]⟩) 1 = some x1 ∧ av Tryz.abEnv 197 (.agg ⟨[x0, x1, x2]⟩) 2 = some x2 := ⟨rfl, rfl, rfl⟩
theorem Tryz.e66 : Tryz.abEnv.fn 66 = some Tryz.f66 := by kernel_rfl
theorem Tryz.e67 : Tryz.abEnv.fn 67 = some Tryz.f67 := by kernel_rfl
theorem Tryz.a130 : Tryz.abEnv.agg 130 = some false := by kernel_rfl
theorem Tryz.s130 : Tryz.abEnv.sz 130 = some 1 := by kernel_rfl
theorem Tryz.z130 : Tryz.abEnv.zero 130 = some [.nilFunc] := by kernel_rfl
theorem Tryz.n130 : ay Tryz.abEnv 130 = some false := by kernel_rfl
theorem Tryz.e68 : Tryz.abEnv.fn 68 = some Tryz.f68 := by kernel_rfl
theorem Tryz.e69 : Tryz.abEnv.fn 69 = some Tryz.f69 := by kernel_rfl
theorem Tryz.e70 : Tryz.abEnv.fn 70 = some Tryz.f70 := by kernel_rfl
theorem Tryz.e71 : Tryz.abEnv.fn 71 = some Tryz.f71 := by kernel_rfl
theorem Tryz.e72 : Tryz.abEnv.fn 72 = some Tryz.f72 := by kernel_rfl
theorem Tryz.e73 : Tryz.abEnv.fn 73 = some Tryz.f73 := by kernel_rfl
theorem Tryz.e74 : Tryz.abEnv.fn 74 = some Tryz.f74 := by kernel_rfl
theorem Tryz.e75 : Tryz.abEnv.fn 75 = some Tryz.f75 := by kernel_rfl
theorem Tryz.e76 : Tryz.abEnv.fn 76 = some Tryz.f76 := by kernel_rfl
theorem Tryz.e77 : Tryz.abEnv.fn 77 = some Tryz.f77 := by kernel_rfl
theorem Tryz.e78 : Tryz.abEnv.fn 78 = some Tryz.f78 := by kernel_rfl
theorem Tryz.e79 : Tryz.abEnv.fn 79 = some Tryz.f79 := by kernel_rfl
theorem Tryz.a203 : Tryz.abEnv.agg 203 = some false := by kernel_rfl
theorem Tryz.s203 : Tryz.abEnv.sz 203 = some 1 := by kernel_rfl
theorem Tryz.z203 : Tryz.abEnv.zero 203 = some [.nilFunc] := by kernel_rfl
theorem Tryz.n203 : ay Tryz.abEnv 203 = some false := by kernel_rfl
theorem Tryz.e80 : Tryz.abEnv.fn 80 = some Tryz.f80 := by kernel_rfl
theorem Tryz.e81 : Tryz.abEnv.fn 81 = some Tryz.f81 := by kernel_rfl
theorem Tryz.e82 : Tryz.abEnv.fn 82 = some Tryz.f82 := by kernel_rfl
theorem Tryz.e83 : Tryz.abEnv.fn 83 = some Tryz.f83 := by kernel_rfl
theorem Tryz.e98 : Tryz.abEnv.fn 98 = some Tryz.f98 := by kernel_rfl
theorem Tryz.e99 : Tryz.abEnv.fn 99 = some Tryz.f99 := by kernel_rfl
theorem Tryz.a167 : Tryz.abEnv.agg 167 = some true := by kernel_rfl
theorem Tryz.s167 : Tryz.abEnv.sz 167 = some 1 := by kernel_rfl
theorem Tryz.z167 : Tryz.abEnv.zero 167 = some [.pointer none] := by kernel_rfl
theorem Tryz.i167 : aQ Tryz.abEnv 167 = true := by kernel_rfl
theorem Tryz.n167 : ay Tryz.abEnv 167 = some false := by kernel_rfl
theorem Tryz.p167 : placesOf Tryz.abEnv 167 = some [(0, 1)] := by kernel_rfl
theorem Tryz.ff167 (b o : Nat) (s : Option Nat) : am Tryz.abEnv 167 (.pointer (some ⟨b, o, s⟩)) 0 = some (.pointer (some ⟨b, o + 0, none⟩)) := rfl
theorem Tryz.d167 (x0 : Value) : av Tryz.abEnv 167 (.agg ⟨[x0]⟩) 0 = some x0 := rfl
theorem Tryz.e100 : Tryz.abEnv.fn 100 = some Tryz.f100 := by kernel_rfl
theorem Tryz.a216 : Tryz.abEnv.agg 216 = some false := by kernel_rfl
theorem Tryz.s216 : Tryz.abEnv.sz 216 = some 1 := by kernel_rfl
theorem Tryz.z216 : Tryz.abEnv.zero 216 = some [.nilFunc] := by kernel_rfl
theorem Tryz.n216 : ay Tryz.abEnv 216 = some false := by kernel_rfl
theorem Tryz.a218 : Tryz.abEnv.agg 218 = some false := by kernel_rfl
theorem Tryz.s218 : Tryz.abEnv.sz 218 = some 1 := by kernel_rfl
theorem Tryz.z218 : Tryz.abEnv.zero 218 = some [.nilFunc] := by kernel_rfl
theorem Tryz.n218 : ay Tryz.abEnv 218 = some false := by kernel_rfl
theorem Tryz.e218E : dD Tryz.abEnv 218 8 1 [.nilFunc] := ⟨⟨_, rfl, by kernel_rfl, by kernel_rfl⟩, Tryz.z218, rfl⟩
theorem Tryz.u220 : Tryz.abEnv.und 220 = some (.slice 218) := by kernel_rfl
theorem Tryz.a220 : Tryz.abEnv.agg 220 = some false := by kernel_rfl
theorem Tryz.s220 : Tryz.abEnv.sz 220 = some 1 := by kernel_rfl
theorem Tryz.z220 : Tryz.abEnv.zero 220 = some [.slice none 0 0] := by kernel_rfl
theorem Tryz.q220 : i9 Tryz.abEnv 220 = true := by kernel_rfl
theorem Tryz.n220 : ay Tryz.abEnv 220 = some false := by kernel_rfl
theorem Tryz.a222 : Tryz.abEnv.agg 222 = some true := by kernel_rfl
theorem Tryz.s222 : Tryz.abEnv.sz 222 = some 6 := by kernel_rfl
theorem Tryz.z222 : Tryz.abEnv.zero 222 = some [.int .i64 0, .int .i64 0, .int .i64 0, .int .i64 0, .int .i64 0, .int .i64 0] := by kernel_rfl
theorem Tryz.i222 : aQ Tryz.abEnv 222 = true := by kernel_rfl
theorem Tryz.n222 : ay Tryz.abEnv 222 = some false := by kernel_rfl
theorem Tryz.p222 : placesOf Tryz.abEnv 222 = some [(0, 1), (1, 1), (2, 1), (3, 1), (4, 1), (5, 1)] := by kernel_rfl
theorem Tryz.ff222 (b o : Nat) (s : Option Nat) : am Tryz.abEnv 222 (.pointer (some ⟨b, o, s⟩)) 0 = some (.pointer (some ⟨b, o + 0, none⟩)) ∧ am Tryz.abEnv 222 (.pointer (some ⟨b, o, s⟩)) 1 = some (.pointer (some ⟨b, o + 1, none⟩)) ∧ am Tryz.abEnv 222 (.pointer (some ⟨b, o, s⟩)) 2 = some (.pointer (some ⟨b, o + 2, none⟩)) ∧ am Tryz.abEnv 222 (.pointer (some ⟨b, o, s⟩)) 3 = some (.pointer (some ⟨b, o + 3, none⟩)) ∧ am Tryz.abEnv 222 (.pointer (some ⟨b, o, s⟩)) 4 = some (.pointer (some ⟨b, o + 4, none⟩)) ∧ am Tryz.abEnv 222 (.pointer (some ⟨b, o, s⟩)) 5 = some (.pointer (some ⟨b, o + 5, none⟩)) := ⟨rfl, rfl, rfl, rfl, rfl, rfl⟩
theorem Tryz.d222 (x0 x1 x2 x3 x4 x5 : Value) : av Tryz.abEnv 222 (.agg ⟨[x0, x1, x2, x3, x4, x5]⟩) 0 = some x0 ∧ av Tryz.abEnv 222 (.agg ⟨[x0, x1, x2, x3, x4, x5]⟩) 1 = some x1 ∧ av Tryz.abEnv 222 (.agg ⟨[x0, x1, x2, x3, x4, x5]⟩) 2 = some x2 ∧ av Tryz.abEnv 222 (.agg ⟨[x0, x1, x2, x3, x4, x5]⟩) 3 = some x3 ∧ av Tryz.abEnv 222 (.agg ⟨[x0, x1, x2, x3, x4, x5]⟩) 4 = some x4 ∧ av Tryz.abEnv 222 (.agg ⟨[x0, x1, x2, x3, x4, x5]⟩) 5 = some x5 := ⟨rfl, rfl, rfl, rfl, rfl, rfl⟩
theorem Tryz.e222E : dD Tryz.abEnv 222 48 6 [.int .i64 0, .int .i64 0, .int .i64 0, .int .i64 0, .int .i64 0, .int .i64 0] := ⟨⟨_, rfl, by kernel_rfl, by kernel_rfl⟩, Tryz.z222, rfl⟩
theorem Tryz.e101 : Tryz.abEnv.fn 101 = some Tryz.f101 := by kernel_rfl
theorem Tryz.e103 : Tryz.abEnv.fn 103 = some Tryz.f103 := by kernel_rfl
theorem Tryz.e104 : Tryz.abEnv.fn 104 = some Tryz.f104 := by kernel_rfl
theorem Tryz.e105 : Tryz.abEnv.fn 105 = some Tryz.f105 := by kernel_rfl
theorem Tryz.e106 : Tryz.abEnv.fn 106 = some Tryz.f106 := by kernel_rfl
theorem Tryz.e107 : Tryz.abEnv.fn 107 = some Tryz.f107 := by kernel_rfl
theorem Tryz.u235 : Tryz.abEnv.und 235 = some (.slice 246) := by kernel_rfl
theorem Tryz.a235 : Tryz.abEnv.agg 235 = some false := by kernel_rfl
theorem Tryz.s235 : Tryz.abEnv.sz 235 = some 1 := by kernel_rfl
theorem Tryz.z235 : Tryz.abEnv.zero 235 = some [.slice none 0 0] := by kernel_rfl
theorem Tryz.q235 : i9 Tryz.abEnv 235 = true := by kernel_rfl
theorem Tryz.n235 : ay Tryz.abEnv 235 = some false := by kernel_rfl
theorem Tryz.a246 : Tryz.abEnv.agg 246 = some true := by kernel_rfl
theorem Tryz.s246 : Tryz.abEnv.sz 246 = some 2 := by kernel_rfl
theorem Tryz.z246 : Tryz.abEnv.zero 246 = some [.int .i64 0, .int .i64 0] := by kernel_rfl
theorem Tryz.i246 : aQ Tryz.abEnv 246 = true := by kernel_rfl
theorem Tryz.n246 : ay Tryz.abEnv 246 = some false := by kernel_rfl
theorem Tryz.p246 : placesOf Tryz.abEnv 246 = some [(0, 1), (1, 1)] := by kernel_rfl
theorem Tryz.ff246 (b o : Nat) (s : Option Nat) : am Tryz.abEnv 246 (.pointer (some ⟨b, o, s⟩)) 0 = some (.pointer (some ⟨b, o + 0, none⟩)) ∧ am Tryz.abEnv 246 (.pointer (some ⟨b, o, s⟩)) 1 = some (.pointer (some ⟨b, o + 1, none⟩)) := ⟨rfl, rfl⟩
theorem Tryz.d246 (x0 x1 : Value) : av Tryz.abEnv 246 (.agg ⟨[x0, x1]⟩) 0 = some x0 ∧ av Tryz.abEnv 246 (.agg ⟨[x0, x1]⟩) 1 = some x1 := ⟨rfl, rfl⟩
theorem Tryz.e246E : dD Tryz.abEnv 246 16 2 [.int .i64 0, .int .i64 0] := ⟨⟨_, rfl, by kernel_rfl, by kernel_rfl⟩, Tryz.z246, rfl⟩
theorem Tryz.e110 : Tryz.abEnv.fn 110 = some Tryz.f110 := by kernel_rfl
theorem Tryz.u240 : Tryz.abEnv.und 240 = some (.int .u64) := by kernel_rfl
theorem Tryz.a240 : Tryz.abEnv.agg 240 = some false := by kernel_rfl
theorem Tryz.s240 : Tryz.abEnv.sz 240 = some 1 := by kernel_rfl
theorem Tryz.z240 : Tryz.abEnv.zero 240 = some [.int .u64 0] := by kernel_rfl
theorem Tryz.i240 : aQ Tryz.abEnv 240 = true := by kernel_rfl
theorem Tryz.e111 : Tryz.abEnv.fn 111 = some Tryz.f111 := by kernel_rfl
theorem Tryz.e115 : Tryz.abEnv.fn 115 = some Tryz.f115 := by kernel_rfl
theorem Tryz.e122 : Tryz.abEnv.fn 122 = some Tryz.f122 := by kernel_rfl
theorem Tryz.e123 : Tryz.abEnv.fn 123 = some Tryz.f123 := by kernel_rfl
theorem Tryz.e124 : Tryz.abEnv.fn 124 = some Tryz.f124 := by kernel_rfl
theorem Tryz.e125 : Tryz.abEnv.fn 125 = some Tryz.f125 := by kernel_rfl
theorem Tryz.a101 : Tryz.abEnv.agg 101 = some true := by kernel_rfl
theorem Tryz.s101 : Tryz.abEnv.sz 101 = some 4 := by kernel_rfl
theorem Tryz.z101 : Tryz.abEnv.zero 101 = some [.int .i64 0, .int .i64 0, .int .i64 0, .int .i64 0] := by kernel_rfl
theorem Tryz.i101 : aQ Tryz.abEnv 101 = true := by kernel_rfl
theorem Tryz.n101 : ay Tryz.abEnv 101 = some false := by kernel_rfl
theorem Tryz.p101 : placesOf Tryz.abEnv 101 = some [(0, 1), (1, 1), (2, 1), (3, 1)] := by kernel_rfl
theorem Tryz.ff101 (b o : Nat) (s : Option Nat) : am Tryz.abEnv 101 (.pointer (some ⟨b, o, s⟩)) 0 = some (.pointer (some ⟨b, o + 0, none⟩)) ∧ am Tryz.abEnv 101 (.pointer (some ⟨b, o, s⟩)) 1 = some (.pointer (some ⟨b, o + 1, none⟩)) ∧ am Tryz.abEnv 101 (.pointer (some ⟨b, o, s⟩)) 2 = some (.pointer (some ⟨b, o + 2, none⟩)) ∧ am Tryz.abEnv 101 (.pointer (some ⟨b, o, s⟩)) 3 = some (.pointer (some ⟨b, o + 3, none⟩)) := ⟨rfl, rfl, rfl, rfl⟩
theorem Tryz.d101 (x0 x1 x2 x3 : Value) : av Tryz.abEnv 101 (.agg ⟨[x0, x1, x2, x3]⟩) 0 = some x0 ∧ av Tryz.abEnv 101 (.agg ⟨[x0, x1, x2, x3]⟩) 1 = some x1 ∧ av Tryz.abEnv 101 (.agg ⟨[x0, x1, x2, x3]⟩) 2 = some x2 ∧ av Tryz.abEnv 101 (.agg ⟨[x0, x1, x2, x3]⟩) 3 = some x3 := ⟨rfl, rfl, rfl, rfl⟩
theorem Tryz.u250 : Tryz.abEnv.und 250 = some (.pointer 253) := by kernel_rfl
theorem Tryz.a250 : Tryz.abEnv.agg 250 = some false := by kernel_rfl
theorem Tryz.s250 : Tryz.abEnv.sz 250 = some 1 := by kernel_rfl
theorem Tryz.z250 : Tryz.abEnv.zero 250 = some [.pointer none] := by kernel_rfl
theorem Tryz.q250 : eS Tryz.abEnv 250 = true := by kernel_rfl
theorem Tryz.i250 : aQ Tryz.abEnv 250 = true := by kernel_rfl
theorem Tryz.n250 : ay Tryz.abEnv 250 = some false := by kernel_rfl
theorem Tryz.a253 : Tryz.abEnv.agg 253 = some true := by kernel_rfl
theorem Tryz.s253 : Tryz.abEnv.sz 253 = some 5 := by kernel_rfl
theorem Tryz.z253 : Tryz.abEnv.zero 253 = some [.pointer none, .slice none 0 0, .slice none 0 0, .slice none 0 0, .map none] := by kernel_rfl
theorem Tryz.i253 : aQ Tryz.abEnv 253 = true := by kernel_rfl
theorem Tryz.n253 : ay Tryz.abEnv 253 = some false := by kernel_rfl
theorem Tryz.p253 : placesOf Tryz.abEnv 253 = some [(0, 1), (1, 3), (4, 1)] := by kernel_rfl
theorem Tryz.ff253 (b o : Nat) (s : Option Nat) : am Tryz.abEnv 253 (.pointer (some ⟨b, o, s⟩)) 0 = some (.pointer (some ⟨b, o + 0, none⟩)) ∧ am Tryz.abEnv 253 (.pointer (some ⟨b, o, s⟩)) 1 = some (.pointer (some ⟨b, o + 1, none⟩)) ∧ am Tryz.abEnv 253 (.pointer (some ⟨b, o, s⟩)) 2 = some (.pointer (some ⟨b, o + 4, none⟩)) := ⟨rfl, rfl, rfl⟩
theorem Tryz.d253 (x0 x1 x2 x3 x4 : Value) : av Tryz.abEnv 253 (.agg ⟨[x0, x1, x2, x3, x4]⟩) 0 = some x0 ∧ av Tryz.abEnv 253 (.agg ⟨[x0, x1, x2, x3, x4]⟩) 1 = some (.agg ⟨[x1, x2, x3]⟩) ∧ av Tryz.abEnv 253 (.agg ⟨[x0, x1, x2, x3, x4]⟩) 2 = some x4 := ⟨rfl, rfl, rfl⟩
theorem Tryz.a255 : Tryz.abEnv.agg 255 = some false := by kernel_rfl
theorem Tryz.s255 : Tryz.abEnv.sz 255 = some 1 := by kernel_rfl
theorem Tryz.z255 : Tryz.abEnv.zero 255 = some [.nilFunc] := by kernel_rfl
theorem Tryz.n255 : ay Tryz.abEnv 255 = some false := by kernel_rfl
theorem Tryz.e126 : Tryz.abEnv.fn 126 = some Tryz.f126 := by kernel_rfl
theorem Tryz.e127 : Tryz.abEnv.fn 127 = some Tryz.f127 := by kernel_rfl
theorem Tryz.e128 : Tryz.abEnv.fn 128 = some Tryz.f128 := by kernel_rfl
theorem Tryz.e129 : Tryz.abEnv.fn 129 = some Tryz.f129 := by kernel_rfl
theorem Tryz.e130 : Tryz.abEnv.fn 130 = some Tryz.f130 := by kernel_rfl
theorem Tryz.e131 : Tryz.abEnv.fn 131 = some Tryz.f131 := by kernel_rfl
theorem Tryz.e132 : Tryz.abEnv.fn 132 = some Tryz.f132 := by kernel_rfl
theorem Tryz.e133 : Tryz.abEnv.fn 133 = some Tryz.f133 := by kernel_rfl
theorem Tryz.e134 : Tryz.abEnv.fn 134 = some Tryz.f134 := by kernel_rfl
theorem Tryz.e135 : Tryz.abEnv.fn 135 = some Tryz.f135 := by kernel_rfl
theorem Tryz.e136 : Tryz.abEnv.fn 136 = some Tryz.f136 := by kernel_rfl
theorem Tryz.e137 : Tryz.abEnv.fn 137 = some Tryz.f137 := by kernel_rfl
theorem Tryz.e138 : Tryz.abEnv.fn 138 = some Tryz.f138 := by kernel_rfl
theorem Tryz.e139 : Tryz.abEnv.fn 139 = some Tryz.f139 := by kernel_rfl
theorem Tryz.e140 : Tryz.abEnv.fn 140 = some Tryz.f140 := by kernel_rfl
theorem Tryz.e155 : Tryz.abEnv.fn 155 = some Tryz.f155 := by kernel_rfl
theorem Tryz.e156 : Tryz.abEnv.fn 156 = some Tryz.f156 := by kernel_rfl
theorem Tryz.u267 : Tryz.abEnv.und 267 = some (.slice 222) := by kernel_rfl
theorem Tryz.a267 : Tryz.abEnv.agg 267 = some false := by kernel_rfl
theorem Tryz.s267 : Tryz.abEnv.sz 267 = some 1 := by kernel_rfl
theorem Tryz.z267 : Tryz.abEnv.zero 267 = some [.slice none 0 0] := by kernel_rfl
theorem Tryz.q267 : i9 Tryz.abEnv 267 = true := by kernel_rfl
theorem Tryz.n267 : ay Tryz.abEnv 267 = some false := by kernel_rfl
theorem Tryz.e157 : Tryz.abEnv.fn 157 = some Tryz.f157 := by kernel_rfl
theorem Tryz.e158 : Tryz.abEnv.fn 158 = some Tryz.f158 := by kernel_rfl
theorem Tryz.e159 : Tryz.abEnv.fn 159 = some Tryz.f159 := by kernel_rfl
theorem Tryz.e160 : Tryz.abEnv.fn 160 = some Tryz.f160 := by kernel_rfl
theorem Tryz.e161 : Tryz.abEnv.fn 161 = some Tryz.f161 := by kernel_rfl
theorem Tryz.e162 : Tryz.abEnv.fn 162 = some Tryz.f162 := by kernel_rfl
theorem Tryz.e163 : Tryz.abEnv.fn 163 = some Tryz.f163 := by kernel_rfl
theorem Tryz.e164 : Tryz.abEnv.fn 164 = some Tryz.f164 := by kernel_rfl
theorem Tryz.e170 : Tryz.abEnv.fn 170 = some Tryz.f170 := by kernel_rfl
theorem Tryz.e171 : Tryz.abEnv.fn 171 = some Tryz.f171 := by kernel_rfl
theorem Tryz.e172 : Tryz.abEnv.fn 172 = some Tryz.f172 := by kernel_rfl
theorem Tryz.e173 : Tryz.abEnv.fn 173 = some Tryz.f173 := by kernel_rfl
theorem Tryz.e174 : Tryz.abEnv.fn 174 = some Tryz.f174 := by kernel_rfl
theorem Tryz.u289 : Tryz.abEnv.und 289 = some (.pointer 237) := by kernel_rfl
theorem Tryz.a289 : Tryz.abEnv.agg 289 = some false := by kernel_rfl
theorem Tryz.s289 : Tryz.abEnv.sz 289 = some 1 := by kernel_rfl
theorem Tryz.z289 : Tryz.abEnv.zero 289 = some [.pointer none] := by kernel_rfl
theorem Tryz.q289 : eS Tryz.abEnv 289 = true := by kernel_rfl
theorem Tryz.i289 : aQ Tryz.abEnv 289 = true := by kernel_rfl
theorem Tryz.n289 : ay Tryz.abEnv 289 = some false := by kernel_rfl
theorem Tryz.e175 : Tryz.abEnv.fn 175 = some Tryz.f175 := by kernel_rfl
theorem Tryz.a88 : Tryz.abEnv.agg 88 = some false := by kernel_rfl
theorem Tryz.s88 : Tryz.abEnv.sz 88 = some 1 := by kernel_rfl
theorem Tryz.z88 : Tryz.abEnv.zero 88 = some [.nilFunc] := by kernel_rfl
theorem Tryz.n88 : ay Tryz.abEnv 88 = some false := by kernel_rfl
theorem Tryz.e176 : Tryz.abEnv.fn 176 = some Tryz.f176 := by kernel_rfl
theorem Tryz.e180 : Tryz.abEnv.fn 180 = some Tryz.f180 := by kernel_rfl
theorem Tryz.e181 : Tryz.abEnv.fn 181 = some Tryz.f181 := by kernel_rfl
theorem Tryz.e182 : Tryz.abEnv.fn 182 = some Tryz.f182 := by kernel_rfl
theorem Tryz.e183 : Tryz.abEnv.fn 183 = some Tryz.f183 := by kernel_rfl
theorem Tryz.e184 : Tryz.abEnv.fn 184 = some Tryz.f184 := by kernel_rfl
theorem Tryz.e185 : Tryz.abEnv.fn 185 = some Tryz.f185 := by kernel_rfl
theorem Tryz.e186 : Tryz.abEnv.fn 186 = some Tryz.f186 := by kernel_rfl
theorem Tryz.e192 : Tryz.abEnv.fn 192 = some Tryz.f192 := by kernel_rfl
theorem Tryz.e193 : Tryz.abEnv.fn 193 = some Tryz.f193 := by kernel_rfl
theorem Tryz.a268 : Tryz.abEnv.agg 268 = some false := by kernel_rfl
theorem Tryz.s268 : Tryz.abEnv.sz 268 = some 1 := by kernel_rfl
theorem Tryz.z268 : Tryz.abEnv.zero 268 = some [.nilFunc] := by kernel_rfl
theorem Tryz.n268 : ay Tryz.abEnv 268 = some false := by kernel_rfl
theorem Tryz.e194 : Tryz.abEnv.fn 194 = some Tryz.f194 := by kernel_rfl
theorem Tryz.e195 : Tryz.abEnv.fn 195 = some Tryz.f195 := by kernel_rfl
theorem Tryz.e200 : Tryz.abEnv.fn 200 = some Tryz.f200 := by kernel_rfl
theorem Tryz.e201 : Tryz.abEnv.fn 201 = some Tryz.f201 := by kernel_rfl
theorem Tryz.e202 : Tryz.abEnv.fn 202 = some Tryz.f202 := by kernel_rfl
theorem Tryz.e203 : Tryz.abEnv.fn 203 = some Tryz.f203 := by kernel_rfl
theorem Tryz.a290 : Tryz.abEnv.agg 290 = some false := by kernel_rfl
theorem Tryz.s290 : Tryz.abEnv.sz 290 = some 1 := by kernel_rfl
theorem Tryz.z290 : Tryz.abEnv.zero 290 = some [.nilFunc] := by kernel_rfl
theorem Tryz.n290 : ay Tryz.abEnv 290 = some false := by kernel_rfl
theorem Tryz.e204 : Tryz.abEnv.fn 204 = some Tryz.f204 := by kernel_rfl
theorem Tryz.e205 : Tryz.abEnv.fn 205 = some Tryz.f205 := by kernel_rfl
theorem Tryz.e207 : Tryz.abEnv.fn 207 = some Tryz.f207 := by kernel_rfl
theorem Tryz.e213 : Tryz.abEnv.fn 213 = some Tryz.f213 := by kernel_rfl
theorem Tryz.e214 : Tryz.abEnv.fn 214 = some Tryz.f214 := by kernel_rfl
theorem Tryz.e215 : Tryz.abEnv.fn 215 = some Tryz.f215 := by kernel_rfl
theorem Tryz.e216 : Tryz.abEnv.fn 216 = some Tryz.f216 := by kernel_rfl
theorem Tryz.e221 : Tryz.abEnv.fn 221 = some Tryz.f221 := by kernel_rfl
end Go.Ab

end
section
namespace Go.Ab
open Go.Proofs
set_option maxRecDepth 10000
open Tryz in
def Tryz.FFt1213 := aj a1 <| aj s1 <| aj z1 <| aj n1 <| aj u2 <| aj a2 <| aj s2 <| aj z2 <| aj i2 <| aj u3 <| aj a3 <| aj s3 <| aj z3 <| aj i3 <| aj u4 <| aj a4 <| aj s4 <| aj z4 <| aj n4 <| aj u47 <| aj a47 <| aj s47 <| aj z47 <| aj i47 <| aj a222 <| aj s222 <| aj z222 <| aj i222 <| aj n222 <| aj p222 <| aj ff222 <| aj d222 <| aj u267 <| aj a267 <| aj s267 <| aj z267 <| aj q267 <| aj n267 <| aj a268 <| aj s268 <| aj z268 <| n268
theorem values {h0 : Hp} (ok : h0.t.Sized h0.n) {v : Value} (hv : Fl v) : Ret Tryz.abEnv 193 [v] h0 fun r h' => Gr h0 h' ∧ ∃ b, r = .func (.func 213) #[] #[ptrTo b] ∧ h0.n ≤ b ∧ h'.load b 0 1 = some [v] := by
 have S := St.init (M := NoM) ok
 refine ah (n := 4) (rs := [.tmp 2]) rfl Tryz.e193 rfl rfl rfl (lbt rfl) ?_
 simp only [BS, Nat.reduceLT]
 refine ao (fE (by first | exact aM | exact aw | exact aX | exact aT | exact bo | exact aP | exact aU | exact aK | exact aV | exact bz | assumption)) S ?_; clear S; intro h b S n_b
 simp only [BS, LB, ag, Nat.reduceLT, Nat.reduceEqDiff]
 exact ⟨S.gr, b, rfl, n_b, S.ld m0 rfl⟩
theorem nY {h0 : Hp} (ok0 : h0.t.Sized h0.n) {v : Value} {b : Nat} {ps : List Pl} (hb : h0.load b 0 1 = some [v]) (hs : aB h0 6 gJ v ps) (hlen : ps.length < 1000) :
 Iter Tryz.abEnv 213 [] [ptrTo b] h0 (fun c => c = b ∨ ax v c) (ps.map fun p => [.agg ⟨gJ p⟩]) := by
 refine nE fun lb J Z Y h F s hj => ?_
 refine enter (n := 16) (rs := []) rfl Tryz.e213 rfl rfl rfl (lbt rfl) ?_
 have hb' := s.load ok0 hb (.inl rfl)
 have hs' := s.sl ok0 hs (fun b h => .inr h)
 simp only [BS, LB, Nat.reduceLT, Tryz.FFt1213, hb', hs'.lenq]
 refine bE (fun (i : Nat) ρ h => i ≤ ps.length ∧ ∃ F, ItS h0 (fun c => c = b ∨ ax v c) h F ∧ J i h F ∧ ρ 0 = .func (.yield lb) #[] #[] ∧ ρ 5 = v ∧ ρ 6 = .int .i64 ps.length ∧ ρ 7 = .int .i64 i) (fun i => ps.length - i) ?_ 0 _ _ ?_
 · intro i ih ρ h ⟨hi, F, s, hj, r0, r5, r6, r7⟩
   by_cases hlt : i < ps.length
   · have hs' := s.sl ok0 hs (fun b h => .inr h)
     obtain ⟨c, o, hidx, hld⟩ := hs'.ix (kd := .i64) encP_len hlt
     have S := St.init (M := NoM) s.ok
     have w : au .i64 ((i : Int) + 1) = ((i + 1 : Nat) : Int) := by rw [wrap64] <;> omega
     simp only [BS, LB, Nat.reduceLT, Nat.reduceEqDiff, Tryz.FFt1213, r5, r6, r7, aF, hlt, hidx, hld]
     refine ao aJ S ?_; clear S; intro h bb S n_bb
     simp only [BS, LB, Nat.reduceLT, Nat.reduceEqDiff, gJ]
     first | refine ac (S.store (i := 0) rfl ?_ ?_ rfl rfl ?_ ono) ?_ | refine ac (S.store (i := 1) rfl ?_ ?_ rfl rfl ?_ ono) ?_ | refine ac (S.store (i := 2) rfl ?_ ?_ rfl rfl ?_ ono) ?_ | refine ac (S.store (i := 3) rfl ?_ ?_ rfl rfl ?_ ono) ?_ | refine ac (S.store (i := 4) rfl ?_ ?_ rfl rfl ?_ ono) ?_ | refine ac (S.store (i := 5) rfl ?_ ?_ rfl rfl ?_ ono) ?_ | refine ac (S.store (i := 6) rfl ?_ ?_ rfl rfl ?_ ono) ?_ | refine ac (S.store (i := 7) rfl ?_ ?_ rfl rfl ?_ ono) ?_
     · exact (by first | exact Tryz.s222)
     · exact (by intro x e; cases e)
     · exact lbt rfl
     clear S; rintro h ⟨S, mo⟩; clear mo; simp only [List.set_cons_zero, List.set_cons_succ, an, lay, List.take, List.drop, List.nil_append, List.cons_append, List.append_nil, List.length_cons, List.length_nil, Nat.reduceAdd, Nat.add_zero] at S
     simp only [BS, LB, Nat.reduceLT, Nat.reduceEqDiff, Tryz.FFt1213, r0, S.lds (b := bb) (o := 0) (n := 6) (by repeat constructor) (lbt rfl)]
     refine fK Y (s.gr S.gr) (Y.gr _ _ _ _ hj S.gr) (i := i) (by simp [hlt, gJ]) ?_ ?_ ?_
     · intro h' F' a s' _ _
       simp only [BS, LB, Nat.reduceLT, Nat.reduceEqDiff, r7, w]
       exact ih (i + 1) _ _ (by omega) ⟨by omega, F', s', a, by simp [aa, r0], by simp [aa, r5], by simp [aa, r6], by simp [aa]⟩
     · intro h' a _
       simp only [BS, LB, Nat.reduceLT, Nat.reduceEqDiff]
       exact iN rfl ⟨rfl, .inr (.inl ⟨_, rfl, a⟩)⟩
     · intro v h' a
       simp only [BS]
       exact g8 (dN ⟨rfl, .inr (.inr ⟨_, rfl, a⟩)⟩)
   · simp only [BS, LB, Nat.reduceLT, r6, r7, aF, hlt]
     have : i = ps.length := by omega
     subst this
     exact d6 (dN ⟨rfl, _, rfl, rfl, .inl ⟨_, F, rfl, by simpa using hj⟩⟩)
 · exact ⟨by omega, F, s, hj, by simp [aa, cV], by simp [aa], by simp [aa], by simp [aa]⟩
end Go.Ab

end
section
namespace Go.Ab
open Go.Proofs
set_option maxRecDepth 10000
open Tryz in
def Tryz.FFt2157 := aj a1 <| aj s1 <| aj z1 <| aj n1 <| aj u2 <| aj a2 <| aj s2 <| aj z2 <| aj i2 <| aj u3 <| aj a3 <| aj s3 <| aj z3 <| aj i3 <| aj u4 <| aj a4 <| aj s4 <| aj z4 <| aj n4 <| aj u5 <| aj a5 <| aj s5 <| aj z5 <| aj i5 <| aj u47 <| aj a47 <| aj s47 <| aj z47 <| aj i47 <| aj a216 <| aj s216 <| aj z216 <| aj n216 <| aj a222 <| aj s222 <| aj z222 <| aj i222 <| aj n222 <| aj p222 <| aj ff222 <| aj d222 <| aj u267 <| aj a267 <| aj s267 <| aj z267 <| aj q267 <| n267
open Tryz in
def Tryz.FFt2159 := aj a1 <| aj s1 <| aj z1 <| aj n1 <| aj u2 <| aj a2 <| aj s2 <| aj z2 <| aj i2 <| aj u3 <| aj a3 <| aj s3 <| aj z3 <| aj i3 <| aj u4 <| aj a4 <| aj s4 <| aj z4 <| aj n4 <| aj u5 <| aj a5 <| aj s5 <| aj z5 <| aj i5 <| aj u25 <| aj a25 <| aj s25 <| aj z25 <| aj q25 <| aj n25 <| aj u29 <| aj a29 <| aj s29 <| aj z29 <| aj q29 <| aj n29 <| aj a31 <| aj s31 <| aj z31 <| aj i31 <| aj n31 <| aj p31 <| aj ff31 <| aj d31 <| aj u47 <| aj a47 <| aj s47 <| aj z47 <| aj i47 <| aj a56 <| aj s56 <| aj z56 <| aj i56 <| aj n56 <| aj p56 <| aj ff56 <| aj d56 <| aj a216 <| aj s216 <| aj z216 <| aj n216 <| aj a222 <| aj s222 <| aj z222 <| aj i222 <| aj n222 <| aj p222 <| aj ff222 <| aj d222 <| aj u267 <| aj a267 <| aj s267 <| aj z267 <| aj q267 <| n267
open Tryz in
def Tryz.FFt2194 := aj a1 <| aj s1 <| aj z1 <| aj n1 <| aj u2 <| aj a2 <| aj s2 <| aj z2 <| aj i2 <| aj u3 <| aj a3 <| aj s3 <| aj z3 <| aj i3 <| aj u4 <| aj a4 <| aj s4 <| aj z4 <| aj n4 <| aj u5 <| aj a5 <| aj s5 <| aj z5 <| aj i5 <| aj u6 <| aj a6 <| aj s6 <| aj z6 <| aj i6 <| aj a7 <| aj s7 <| aj z7 <| aj i7 <| aj n7 <| aj p7 <| aj ff7 <| aj d7 <| aj a8 <| aj s8 <| aj z8 <| aj i8 <| aj n8 <| aj p8 <| aj ff8 <| aj d8 <| aj u25 <| aj a25 <| aj s25 <| aj z25 <| aj q25 <| aj n25 <| aj u29 <| aj a29 <| aj s29 <| aj z29 <| aj q29 <| aj n29 <| aj a31 <| aj s31 <| aj z31 <| aj i31 <| aj n31 <| aj p31 <| aj ff31 <| aj d31 <| aj u47 <| aj a47 <| aj s47 <| aj z47 <| aj i47 <| aj a56 <| aj s56 <| aj z56 <| aj i56 <| aj n56 <| aj p56 <| aj ff56 <| aj d56 <| aj a222 <| aj s222 <| aj z222 <| aj i222 <| aj n222 <| aj p222 <| aj ff222 <| aj d222 <| aj a268 <| aj s268 <| aj z268 <| n268
def jC (n0 n1 : Nat) (v : Value) (h' : Hp) : Prop := ∃ gi a post, ∃ (ps : List Pl) (D : Nat → Prop), v = .func (.func gi) a post ∧ Iter Tryz.abEnv gi a.toList post.toList h' D (ps.map fun p => [.agg ⟨gJ p⟩]) ∧ (∀ p ∈ ps, p.lo ≤ p.n ∧ p.n < p.hi) ∧ ∀ c, D c → c < n0 ∨ n1 ≤ c
theorem one_ok {h0 : Hp} (ok : h0.t.Sized h0.n) {c n lo hi : Int} (h1 : lo ≤ n) (h2 : n < hi) :
 Ret Tryz.abEnv 157 [.int .i64 c, .int .i64 n, .int .i64 lo, .int .i64 hi] h0 fun v h' => Gr h0 h' ∧ jC 0 h0.n v h' := by
 have S := St.init (M := NoM) ok
 refine ah (n := 16) (rs := [.tmp 8]) rfl Tryz.e157 rfl rfl rfl (lbt rfl) ?_
 simp only [BS, LB, Nat.reduceLT, Nat.reduceEqDiff, Nat.reduceAdd, Tryz.FFt2157]
 refine ao (bT (by first | exact Tryz.u267) (by first | exact Tryz.e222E) (by decide) (by first | rfl | exact fillE )) S ?_; clear S; intro h b S n_b; simp only [aY, bD, an, List.cons_append, List.nil_append, List.append_nil, List.set_cons_zero, List.set_cons_succ, Nat.reduceMul, Nat.reduceAdd, Nat.zero_mul, Nat.zero_add, Nat.mul_one, Nat.one_mul] at S
 simp only [BS, LB, Nat.reduceLT, Nat.reduceEqDiff]
 have q := S.fr.n
 refine step_ret (values S.ok aw) ?_; intro v h ⟨g, b2, e, n2, l2⟩; replace S := S.call g; clear g
 subst e
 simp only [BS, LB, ag, Nat.reduceLT, Nat.reduceEqDiff]
 have hs : aB h 6 gJ (.slice (some ⟨b, 0, none⟩) 1 1) [⟨0, 0, c, n, lo, hi⟩] := .inr ⟨b, 0, none, 1, rfl, Nat.le_refl _, S.lds (b := b) (o := 0) (n := 1 * 6) m0 (lbt rfl)⟩
 exact ⟨S.gr, _, #[], #[ptrTo b2], _, _, rfl, nY S.ok l2 hs (by simp), by intro p hp; simp at hp; subst hp; exact ⟨h1, h2⟩, fun c hc => by rcases hc with rfl | hc; exact .inr (by omega); cases hc; exact .inr n_b⟩
theorem shapes_ok {h0 : Hp} (ok : h0.t.Sized h0.n) {γ : Gra} (hγ : Good γ) {vx vy va : Value} (ga : cL h0 vx vy va γ) :
 Ret Tryz.abEnv 159 [gU γ vx vy va] h0 fun v h' => Gr h0 h' ∧ jC 0 h0.n v h' := by
 have S := St.init (M := NoM) ok
 have n1 := hγ.n1
 have n2 := hγ.n2
 have w : au .i64 ((γ.nodes : Int) + 1) = ((γ.nodes + 1 : Nat) : Int) := by rw [wrap64] <;> omega
 refine ah (n := 22) (rs := [.tmp 2]) rfl Tryz.e159 rfl rfl rfl (lbt rfl) ?_
 simp only [BS, Nat.reduceLT, gU]
 refine ao (bS (by intro x e; cases e)) S ?_; clear S; intro h b S n_b; simp only [an] at S
 simp only [BS, LB, Nat.reduceLT, Nat.reduceEqDiff, Nat.reduceAdd, Tryz.FFt2159, ga.X.lenq, ga.Y.lenq, w, S.ld (b := b) (o := 0) (by repeat constructor) rfl, S.ld (b := b) (o := 1) (by repeat constructor) rfl, S.ld (b := b) (o := 2) (by repeat constructor) rfl]
 refine ao (bT (by first | exact Tryz.u25 | exact Tryz.u29 | exact Tryz.u267) (by first | exact Tryz.e2E | exact Tryz.e56E | exact Tryz.e222E) (by decide) (by first | rfl | exact fillE )) S ?_; clear S; intro h b1 S n_b1; simp only [aY, bD, an, List.cons_append, List.nil_append, List.append_nil, List.set_cons_zero, List.set_cons_succ, Nat.reduceMul, Nat.reduceAdd, Nat.zero_mul, Nat.zero_add, Nat.mul_one, Nat.one_mul] at S
 simp only [BS, LB, Nat.reduceLT, Nat.reduceEqDiff]
 have q := S.fr.n
 refine step_ret (values S.ok aw) ?_; intro v h ⟨g, b2, e, n2', l2⟩; replace S := S.call g; clear g
 subst e
 simp only [BS, LB, ag, Nat.reduceLT, Nat.reduceEqDiff]
 have hs : aB h 6 gJ (.slice (some ⟨b1, 0, none⟩) 2 2) [⟨0, 0, 6, γ.X.length, γ.nodes, (γ.nodes + 1 : Nat)⟩, ⟨0, 1, 6, γ.Y.length, γ.nodes, (γ.nodes + 1 : Nat)⟩] := .inr ⟨b1, 0, none, 2, rfl, Nat.le_refl _, S.lds (b := b1) (o := 0) (n := 2 * 6) m0 (lbt rfl)⟩
 refine ⟨S.gr, _, #[], #[ptrTo b2], _, _, rfl, nY S.ok l2 hs (by simp), ?_, fun c hc => by rcases hc with rfl | hc; exact .inr (by omega); cases hc; exact .inr n_b1⟩
 intro p hp
 have := hγ.lX
 have := hγ.lY
 simp at hp
 rcases hp with rfl | rfl <;> (simp only []; omega)
theorem nodes_ok {h0 : Hp} (ok : h0.t.Sized h0.n) {vx vy va vn : Value} : Ret Tryz.abEnv 161 [.agg ⟨[vn, vx, vy, va]⟩] h0 fun v h' => Gr h0 h' ∧ ∃ b, v = .func (.func 194) #[] #[ptrTo b] ∧ h0.n ≤ b ∧ Row h' b [vn, vx, vy, va] 1 := by
 have S := St.init (M := NoM) ok
 refine ah (n := 4) (rs := [.tmp 2]) rfl Tryz.e161 rfl rfl rfl (lbt rfl) ?_
 simp only [BS, Nat.reduceLT]
 refine ao (bS (by intro x e; cases e)) S ?_; clear S; intro h b S n_b; simp only [an] at S
 simp only [BS, LB, ag, Nat.reduceLT, Nat.reduceEqDiff]
 exact ⟨S.gr, b, rfl, n_b, S.row m0⟩
theorem arcs_ok {h0 : Hp} (ok : h0.t.Sized h0.n) {vx vy va vn : Value} : Ret Tryz.abEnv 164 [.agg ⟨[vn, vx, vy, va]⟩] h0 fun v h' => Gr h0 h' ∧ ∃ b, v = .func (.func 195) #[] #[ptrTo b] ∧ h0.n ≤ b ∧ Row h' b [vn, vx, vy, va] 1 := by
 have S := St.init (M := NoM) ok
 refine ah (n := 4) (rs := [.tmp 2]) rfl Tryz.e164 rfl rfl rfl (lbt rfl) ?_
 simp only [BS, Nat.reduceLT]
 refine ao (bS (by intro x e; cases e)) S ?_; clear S; intro h b S n_b; simp only [an] at S
 simp only [BS, LB, ag, Nat.reduceLT, Nat.reduceEqDiff]
 exact ⟨S.gr, b, rfl, n_b, S.row m0⟩
def plN (X Y : List Int) : List Pl := (List.range X.length).flatMap fun (i : Nat) => [⟨i, 0, 7, X.getD i 0, -2147483648, 2147483648⟩, ⟨i, 1, 7, Y.getD i 0, -2147483648, 2147483648⟩]
theorem plN_len (X Y : List Int) : (plN X Y).length = 2 * X.length := by
 unfold plN
 rw [List.length_flatMap]
 simp [List.map_const']
 omega
theorem plN_at (X Y : List Int) {i : Nat} (hi : i < X.length) : (plN X Y)[2 * i]? = some ⟨i, 0, 7, X.getD i 0, -2147483648, 2147483648⟩ ∧ (plN X Y)[2 * i + 1]? = some ⟨i, 1, 7, Y.getD i 0, -2147483648, 2147483648⟩ := by
 unfold plN
 have key : ∀ (n j : Nat) (f : Nat → Pl) (k : Nat → Pl), j < n → ((List.range n).flatMap fun i => [f i, k i])[2 * j]? = some (f j) ∧ ((List.range n).flatMap fun i => [f i, k i])[2 * j + 1]? = some (k j) := by
  intro n
  induction n with
  | zero => intro j f k hj; omega
  | succ n ih =>
    intro j f k hj
    have hlen : ((List.range n).flatMap fun i => [f i, k i]).length = 2 * n := by rw [List.length_flatMap]; simp [List.map_const']; omega
    rw [List.range_succ, List.flatMap_append]
    by_cases h : j < n
    · rw [List.getElem?_append_left (by omega), List.getElem?_append_left (by omega)]; exact ih j f k h
    · have : j = n := by omega
      subst this
      rw [List.getElem?_append_right (by omega), List.getElem?_append_right (by omega), hlen]
      simp
 exact key _ _ _ _ hi
theorem uH {h0 : Hp} (ok0 : h0.t.Sized h0.n) {vx vy va vn : Value} {b : Nat} {X Y : List Int} (hb : Row h0 b [vn, vx, vy, va] 1) (hX : aB h0 1 (encI .i64) vx X) (hY : aB h0 1 (encI .i64) vy Y) (hl : X.length = Y.length) (hlen : X.length < 1000) :
 Iter Tryz.abEnv 194 [] [ptrTo b] h0 (fun c => c = b ∨ ax vx c ∨ ax vy c) ((plN X Y).map fun p => [.agg ⟨gJ p⟩]) := by
 refine nE fun lb J Z Y' h F s hj => ?_
 refine enter (n := 38) (rs := []) rfl Tryz.e194 rfl rfl rfl (lbt rfl) ?_
 have l1 := s.load ok0 (hb.load1 (o := 1) rfl) (.inl rfl)
 simp only [BS, LB, Nat.reduceLT, Nat.reduceEqDiff, Tryz.FFt2194, l1, hX.lenq]
 refine bE (fun (i : Nat) ρ h => i ≤ X.length ∧ ∃ F, ItS h0 (fun c => c = b ∨ ax vx c ∨ ax vy c) h F ∧ J (2 * i) h F ∧ ρ 0 = .func (.yield lb) #[] #[] ∧ ρ 1 = ptrTo b ∧ ρ 8 = .int .i64 X.length ∧ ρ 9 = .int .i64 i) (fun i => X.length - i) ?_ 0 _ _ ?_
 · intro i ih ρ h ⟨hi, F, s, hj, r0, r1, r8, r9⟩
   by_cases hlt : i < X.length
   · have hX' := s.sl ok0 hX (fun b h => .inr (.inl h))
     have hY' := s.sl ok0 hY (fun b h => .inr (.inr h))
     have l1 := s.load ok0 (hb.load1 (o := 1) rfl) (.inl rfl)
     have l2 := s.load ok0 (hb.load1 (o := 2) rfl) (.inl rfl)
     obtain ⟨c, o, hidx, hld⟩ := hX'.ix (kd := .i64) (cN _) hlt
     obtain ⟨c2, o2, hidx2, hld2⟩ := hY'.ix (kd := .i64) (cN _) (i := i) (by omega)
     have S := St.init (M := NoM) s.ok
     have w : au .i64 ((i : Int) + 1) = ((i + 1 : Nat) : Int) := by rw [wrap64] <;> omega
     simp only [BS, LB, Nat.reduceLT, Nat.reduceEqDiff, r8, r9, aF, hlt]
     refine aI (aR rfl) (q := 1024) (ps := []) (by kernel_rfl) ?_
     simp only [BS, LB, cls, Nat.reduceLT, Nat.reduceEqDiff, Nat.reduceAdd, Nat.reducePow, Nat.reduceDiv, Nat.reduceMod, Nat.reduceLeDiff, Tryz.FFt2194, r1, l1, l2, hidx, hidx2, hld, hld2, encI]
     refine eF (bT (by first | exact Tryz.u25 | exact Tryz.u29) (by first | exact Tryz.e2E | exact Tryz.e56E) (by decide) (by first | rfl | exact fillE )) S ?_; clear S; intro h b22 S n_b22 e_b22; simp only [aY, bD, an, List.cons_append, List.nil_append, List.append_nil, List.set_cons_zero, List.set_cons_succ, Nat.reduceMul, Nat.reduceAdd, Nat.zero_mul, Nat.zero_add, Nat.mul_one, Nat.one_mul] at S
     simp only [BS, LB, cls, Nat.reduceLT, Nat.reduceEqDiff, Nat.reduceAdd, Nat.reducePow, Nat.reduceDiv, Nat.reduceMod, Nat.reduceLeDiff, Int.cast_ofNat_Int, Tryz.FFt2194]
     have w1 : au .i64 1 = 1 := rfl
     have w2 : au .i64 2 = 2 := rfl
     have hp := plN_at X Y hlt
     rw [ce]
     simp only [BS, LB, Nat.reduceLT, Nat.reduceEqDiff, Nat.reduceAdd, Int.reduceToNat, Int.reduceLE, Int.reduceLT, Int.cast_ofNat_Int, Tryz.FFt2194, r0, S.ld (b := b22) (o := 0) (by repeat constructor) rfl, S.ld (b := b22) (o := 1) (by repeat constructor) rfl]
     refine fK Y' (s.gr S.gr) (Y'.gr _ _ _ _ hj S.gr) (i := 2 * i) (by rw [List.getElem?_map, hp.1]; simp [gJ, List.getD_eq_getElem?_getD, hlt]) ?_ ?_ ?_
     · intro h2 F2 a s2 mo2 _
       have nF : b22 ∉ F := fun hm => by have := s.lt _ hm; omega
       have R : Row h2 b22 _ 1 := (S.row m0).of_get (mo2.get _ ((S.row m0).lt S.ok) nF)
       have R1 := R.load1 (o := 1) rfl
       have nF2 : True := trivial
       simp only [BS, LB, Nat.reduceLT, Nat.reduceEqDiff, Int.reduceAdd, w1]
       rw [ce]
       simp only [BS, LB, Nat.reduceLT, Nat.reduceEqDiff, Nat.reduceAdd, Int.reduceToNat, Int.reduceLE, Int.reduceLT, Int.cast_ofNat_Int, Tryz.FFt2194, r0, R1]
       refine fK Y' s2 a (i := 2 * i + 1) (by rw [List.getElem?_map, hp.2]; simp [gJ, List.getD_eq_getElem?_getD, show i < Y.length by omega]) ?_ ?_ ?_
       · intro h3 F3 a s3 _ _
         simp only [BS, LB, Nat.reduceLT, Nat.reduceEqDiff, Int.reduceAdd, w2]
         rw [ce]
         simp only [BS, LB, Nat.reduceLT, Nat.reduceEqDiff, Int.reduceLT, r9, w]
         exact ih (i + 1) _ _ (by omega) ⟨by omega, F3, s3, a, by simp [aa, r0], by simp [aa, r1], by simp [aa, r8], by simp [aa]⟩
       · intro h' a _
         simp only [BS, LB, Nat.reduceLT, Nat.reduceEqDiff]
         exact iN rfl ⟨rfl, .inr (.inl ⟨_, rfl, a⟩)⟩
       · intro v h' a
         simp only [BS]
         exact g8 (dN ⟨rfl, .inr (.inr ⟨_, rfl, a⟩)⟩)
     · intro h' a _
       simp only [BS, LB, Nat.reduceLT, Nat.reduceEqDiff]
       exact iN rfl ⟨rfl, .inr (.inl ⟨_, rfl, a⟩)⟩
     · intro v h' a
       simp only [BS]
       exact g8 (dN ⟨rfl, .inr (.inr ⟨_, rfl, a⟩)⟩)
   · simp only [BS, LB, Nat.reduceLT, r8, r9, aF, hlt]
     have : i = X.length := by omega
     subst this
     exact d6 (dN ⟨rfl, _, rfl, rfl, .inl ⟨_, F, rfl, by simpa [plN_len] using hj⟩⟩)
 · exact ⟨by omega, F, s, hj, by simp [aa, cV], by simp [aa, cV, ae], by simp [aa], by simp [aa]⟩
end Go.Ab

end
section
namespace Go.Ab
open Go.Proofs
set_option maxRecDepth 10000
open Tryz in
def Tryz.FFt3195 := aj a1 <| aj s1 <| aj z1 <| aj n1 <| aj u2 <| aj a2 <| aj s2 <| aj z2 <| aj i2 <| aj u3 <| aj a3 <| aj s3 <| aj z3 <| aj i3 <| aj u4 <| aj a4 <| aj s4 <| aj z4 <| aj n4 <| aj u5 <| aj a5 <| aj s5 <| aj z5 <| aj i5 <| aj u6 <| aj a6 <| aj s6 <| aj z6 <| aj i6 <| aj a7 <| aj s7 <| aj z7 <| aj i7 <| aj n7 <| aj p7 <| aj ff7 <| aj d7 <| aj a8 <| aj s8 <| aj z8 <| aj i8 <| aj n8 <| aj p8 <| aj ff8 <| aj d8 <| aj u9 <| aj a9 <| aj s9 <| aj z9 <| aj n9 <| aj u25 <| aj a25 <| aj s25 <| aj z25 <| aj q25 <| aj n25 <| aj u29 <| aj a29 <| aj s29 <| aj z29 <| aj q29 <| aj n29 <| aj a31 <| aj s31 <| aj z31 <| aj i31 <| aj n31 <| aj p31 <| aj ff31 <| aj d31 <| aj u47 <| aj a47 <| aj s47 <| aj z47 <| aj i47 <| aj a56 <| aj s56 <| aj z56 <| aj i56 <| aj n56 <| aj p56 <| aj ff56 <| aj d56 <| aj a222 <| aj s222 <| aj z222 <| aj i222 <| aj n222 <| aj p222 <| aj ff222 <| aj d222 <| aj u267 <| aj a267 <| aj s267 <| aj z267 <| aj q267 <| aj n267 <| aj a268 <| aj s268 <| aj z268 <| n268
def plA (n : Nat) (A : List Arc) : List Pl := (List.range A.length).flatMap fun (i : Nat) => [⟨i, 0, 9, (A.getD i default).s, 0, n⟩, ⟨i, 1, 9, (A.getD i default).t, 0, n⟩, ⟨i, 2, 10, (A.getD i default).w, 0, 2147483648⟩]
theorem flat3_at {α : Type} (f k l : Nat → α) : ∀ (n j : Nat), j < n → ((List.range n).flatMap fun i => [f i, k i, l i])[3 * j]? = some (f j) ∧ ((List.range n).flatMap fun i => [f i, k i, l i])[3 * j + 1]? = some (k j) ∧ ((List.range n).flatMap fun i => [f i, k i, l i])[3 * j + 2]? = some (l j) := by
 intro n
 induction n with
 | zero => intro j hj; omega
 | succ n ih =>
   intro j hj
   have hlen : ((List.range n).flatMap fun i => [f i, k i, l i]).length = 3 * n := by rw [List.length_flatMap]; simp [List.map_const']; omega
   rw [List.range_succ, List.flatMap_append]
   by_cases h : j < n
   · rw [List.getElem?_append_left (by omega), List.getElem?_append_left (by omega), List.getElem?_append_left (by omega)]; exact ih j h
   · have : j = n := by omega
     subst this
     rw [List.getElem?_append_right (by omega), List.getElem?_append_right (by omega), List.getElem?_append_right (by omega), hlen]
     simp
theorem plA_len (n : Nat) (A : List Arc) : (plA n A).length = 3 * A.length := by
 unfold plA
 rw [List.length_flatMap]
 simp [List.map_const']
 omega
theorem arcs_iter {h0 : Hp} (ok0 : h0.t.Sized h0.n) {vx vy va : Value} {b n : Nat} {A : List Arc} (hb : Row h0 b [.int .i64 n, vx, vy, va] 1) (hA : aB h0 3 cP va A) (hlen : A.length < 1000) :
 Iter Tryz.abEnv 195 [] [ptrTo b] h0 (fun c => c = b ∨ ax va c) ((plA n A).map fun p => [.agg ⟨gJ p⟩]) := by
 refine nE fun lb J Z Y' h F s hj => ?_
 refine enter (n := 44) (rs := []) rfl Tryz.e195 rfl rfl rfl (lbt rfl) ?_
 have l0 := s.load ok0 (hb.load1 (o := 0) rfl) (.inl rfl)
 have l3 := s.load ok0 (hb.load1 (o := 3) rfl) (.inl rfl)
 simp only [BS, LB, Nat.reduceLT, Nat.reduceEqDiff, Tryz.FFt3195, l0, l3, hA.lenq]
 refine bE (fun (i : Nat) ρ h => i ≤ A.length ∧ ∃ F, ItS h0 (fun c => c = b ∨ ax va c) h F ∧ J (3 * i) h F ∧ ρ 0 = .func (.yield lb) #[] #[] ∧ ρ 3 = .int .i64 n ∧ ρ 11 = va ∧ ρ 12 = .int .i64 A.length ∧ ρ 13 = .int .i64 i) (fun i => A.length - i) ?_ 0 _ _ ?_
 · intro i ih ρ h ⟨hi, F, s, hj, r0, r3, r11, r12, r13⟩
   by_cases hlt : i < A.length
   · have hA' := s.sl ok0 hA (fun b h => .inr h)
     obtain ⟨c, o, hidx, hld⟩ := hA'.ix (kd := .i64) eY hlt
     have S := St.init (M := NoM) s.ok
     have w : au .i64 ((i : Int) + 1) = ((i + 1 : Nat) : Int) := by rw [wrap64] <;> omega
     have w1 : au .i64 1 = 1 := rfl
     have w2 : au .i64 2 = 2 := rfl
     have w3 : au .i64 3 = 3 := rfl
     have hp := flat3_at (fun (i : Nat) => (⟨i, 0, 9, (A.getD i default).s, 0, n⟩ : Pl)) (fun (i : Nat) => ⟨i, 1, 9, (A.getD i default).t, 0, n⟩) (fun (i : Nat) => ⟨i, 2, 10, (A.getD i default).w, 0, 2147483648⟩) A.length i hlt
     have hd : A.getD i default = A[i] := by simp [List.getD_eq_getElem?_getD, hlt]
     simp only [BS, LB, Nat.reduceLT, Nat.reduceEqDiff, Tryz.FFt3195, r11, r12, r13, aF, hlt, hidx, hld]
     refine ao aJ S ?_; clear S; intro h b5 S n_b5
     simp only [BS, LB, Nat.reduceLT, Nat.reduceEqDiff, cP]
     first | refine ac (S.store (i := 0) rfl ?_ ?_ rfl rfl ?_ ono) ?_ | refine ac (S.store (i := 1) rfl ?_ ?_ rfl rfl ?_ ono) ?_ | refine ac (S.store (i := 2) rfl ?_ ?_ rfl rfl ?_ ono) ?_ | refine ac (S.store (i := 3) rfl ?_ ?_ rfl rfl ?_ ono) ?_ | refine ac (S.store (i := 4) rfl ?_ ?_ rfl rfl ?_ ono) ?_ | refine ac (S.store (i := 5) rfl ?_ ?_ rfl rfl ?_ ono) ?_ | refine ac (S.store (i := 6) rfl ?_ ?_ rfl rfl ?_ ono) ?_ | refine ac (S.store (i := 7) rfl ?_ ?_ rfl rfl ?_ ono) ?_
     · exact (by first | exact Tryz.s7 | exact Tryz.s8 | exact Tryz.s31 | exact Tryz.s56 | exact Tryz.s222)
     · exact (by intro x e; cases e)
     · exact lbt rfl
     clear S; rintro h ⟨S, mo⟩; clear mo; simp only [List.set_cons_zero, List.set_cons_succ, an, lay, List.take, List.drop, List.nil_append, List.cons_append, List.append_nil, List.length_cons, List.length_nil, Nat.reduceAdd, Nat.add_zero] at S
     simp only [BS, LB, Nat.reduceLT, Nat.reduceEqDiff, Nat.reduceAdd, Tryz.FFt3195, r3, S.ld (b := b5) (o := 0) (by repeat constructor) rfl, S.ld (b := b5) (o := 1) (by repeat constructor) rfl, S.ld (b := b5) (o := 2) (by repeat constructor) rfl]
     refine ao (bT (by first | exact Tryz.u25 | exact Tryz.u29 | exact Tryz.u267) (by first | exact Tryz.e2E | exact Tryz.e56E | exact Tryz.e222E) (by decide) (by first | rfl | exact fillE )) S ?_; clear S; intro h bl S n_bl; simp only [aY, bD, an, List.cons_append, List.nil_append, List.append_nil, List.set_cons_zero, List.set_cons_succ, Nat.reduceMul, Nat.reduceAdd, Nat.zero_mul, Nat.zero_add, Nat.mul_one, Nat.one_mul] at S
     simp only [BS, LB, Nat.reduceLT, Nat.reduceEqDiff, Int.cast_ofNat_Int, Tryz.FFt3195]
     have nF : bl ∉ F := fun hm => by have := s.lt _ hm; omega
     have R : Row h bl _ 1 := S.row m0
     have hbl := R.lt S.ok
     rw [ce]
     simp only [BS, LB, Nat.reduceLT, Nat.reduceEqDiff, Int.reduceToNat, Int.reduceLE, Int.reduceLT, Int.cast_ofNat_Int, Tryz.FFt3195, S.lds (b := bl) (o := 0) (n := 6) (by repeat constructor) (lbt rfl)]
     refine ao aJ S ?_; clear S; intro h b7 S n_b7
     simp only [BS, LB, Nat.reduceLT, Nat.reduceEqDiff, List.drop_zero, List.take_succ_cons, List.take_zero]
     first | refine ac (S.store (i := 0) rfl ?_ ?_ rfl rfl ?_ ono) ?_ | refine ac (S.store (i := 1) rfl ?_ ?_ rfl rfl ?_ ono) ?_ | refine ac (S.store (i := 2) rfl ?_ ?_ rfl rfl ?_ ono) ?_ | refine ac (S.store (i := 3) rfl ?_ ?_ rfl rfl ?_ ono) ?_ | refine ac (S.store (i := 4) rfl ?_ ?_ rfl rfl ?_ ono) ?_ | refine ac (S.store (i := 5) rfl ?_ ?_ rfl rfl ?_ ono) ?_ | refine ac (S.store (i := 6) rfl ?_ ?_ rfl rfl ?_ ono) ?_ | refine ac (S.store (i := 7) rfl ?_ ?_ rfl rfl ?_ ono) ?_
     · exact (by first | exact Tryz.s7 | exact Tryz.s8 | exact Tryz.s31 | exact Tryz.s56 | exact Tryz.s222)
     · exact (by intro x e; cases e)
     · exact lbt rfl
     clear S; rintro h ⟨S, mo⟩; clear mo; simp only [List.set_cons_zero, List.set_cons_succ, an, lay, List.take, List.drop, List.nil_append, List.cons_append, List.append_nil, List.length_cons, List.length_nil, Nat.reduceAdd, Nat.add_zero] at S
     simp only [BS, LB, Nat.reduceLT, Nat.reduceEqDiff, Tryz.FFt3195, r0, S.lds (b := b7) (o := 0) (n := 6) (by repeat constructor) (lbt rfl)]
     have R : Row h bl _ 1 := S.row m1
     refine fK Y' (s.gr S.gr) (Y'.gr _ _ _ _ hj S.gr) (i := 3 * i) (by rw [List.getElem?_map, show (plA n A)[3 * i]? = _ from hp.1, hd]; simp [gJ]) ?_ ?_ ?_
     · intro h2 F2 a s2 mo2 hF2
       have R0 := R
       replace R : Row h2 bl _ 1 := R.of_get (mo2.get _ (R.lt S.ok) nF)
       have nF2 : bl ∉ F2 := fun hm => by
        rcases hF2 _ hm with hm | hm
        · exact nF hm
        · have := R0.lt S.ok; omega
       have S := St.init (M := NoM) s2.ok
       simp only [BS, LB, Nat.reduceLT, Nat.reduceEqDiff, Int.reduceAdd, w1]
       rw [ce]
       simp only [BS, LB, Nat.reduceLT, Nat.reduceEqDiff, Int.reduceToNat, Int.reduceLE, Int.reduceLT, Int.cast_ofNat_Int, Nat.reduceMul, Tryz.FFt3195, R.load (o := 6) (n := 6) (lbt rfl)]
       refine ao aJ S ?_; clear S; intro h b8 S n_b8
       simp only [BS, LB, Nat.reduceLT, Nat.reduceEqDiff, List.drop_succ_cons, List.drop_zero, List.take_succ_cons, List.take_zero]
       first | refine ac (S.store (i := 0) rfl ?_ ?_ rfl rfl ?_ ono) ?_ | refine ac (S.store (i := 1) rfl ?_ ?_ rfl rfl ?_ ono) ?_ | refine ac (S.store (i := 2) rfl ?_ ?_ rfl rfl ?_ ono) ?_ | refine ac (S.store (i := 3) rfl ?_ ?_ rfl rfl ?_ ono) ?_ | refine ac (S.store (i := 4) rfl ?_ ?_ rfl rfl ?_ ono) ?_ | refine ac (S.store (i := 5) rfl ?_ ?_ rfl rfl ?_ ono) ?_ | refine ac (S.store (i := 6) rfl ?_ ?_ rfl rfl ?_ ono) ?_ | refine ac (S.store (i := 7) rfl ?_ ?_ rfl rfl ?_ ono) ?_
       · exact (by first | exact Tryz.s7 | exact Tryz.s8 | exact Tryz.s31 | exact Tryz.s56 | exact Tryz.s222)
       · exact (by intro x e; cases e)
       · exact lbt rfl
       clear S; rintro h ⟨S, mo⟩; clear mo; simp only [List.set_cons_zero, List.set_cons_succ, an, lay, List.take, List.drop, List.nil_append, List.cons_append, List.append_nil, List.length_cons, List.length_nil, Nat.reduceAdd, Nat.add_zero] at S
       simp only [BS, LB, Nat.reduceLT, Nat.reduceEqDiff, Tryz.FFt3195, r0, S.lds (b := b8) (o := 0) (n := 6) (by repeat constructor) (lbt rfl)]
       replace R := R.gr S.gr
       refine fK Y' (s2.gr S.gr) (Y'.gr _ _ _ _ a S.gr) (i := 3 * i + 1) (by rw [List.getElem?_map, show (plA n A)[3 * i + 1]? = _ from hp.2.1, hd]; simp [gJ]) ?_ ?_ ?_
       · intro h3 F3 a s3 mo3 hF3
         replace R : Row h3 bl _ 1 := R.of_get (mo3.get _ (R.lt S.ok) nF2)
         have S := St.init (M := NoM) s3.ok
         simp only [BS, LB, Nat.reduceLT, Nat.reduceEqDiff, Int.reduceAdd, w2]
         rw [ce]
         simp only [BS, LB, Nat.reduceLT, Nat.reduceEqDiff, Int.reduceToNat, Int.reduceLE, Int.reduceLT, Int.cast_ofNat_Int, Nat.reduceMul, Tryz.FFt3195, R.load (o := 12) (n := 6) (lbt rfl)]
         refine ao aJ S ?_; clear S; intro h b9 S n_b9
         simp only [BS, LB, Nat.reduceLT, Nat.reduceEqDiff, List.drop_succ_cons, List.drop_zero, List.take_succ_cons, List.take_zero]
         first | refine ac (S.store (i := 0) rfl ?_ ?_ rfl rfl ?_ ono) ?_ | refine ac (S.store (i := 1) rfl ?_ ?_ rfl rfl ?_ ono) ?_ | refine ac (S.store (i := 2) rfl ?_ ?_ rfl rfl ?_ ono) ?_ | refine ac (S.store (i := 3) rfl ?_ ?_ rfl rfl ?_ ono) ?_ | refine ac (S.store (i := 4) rfl ?_ ?_ rfl rfl ?_ ono) ?_ | refine ac (S.store (i := 5) rfl ?_ ?_ rfl rfl ?_ ono) ?_ | refine ac (S.store (i := 6) rfl ?_ ?_ rfl rfl ?_ ono) ?_ | refine ac (S.store (i := 7) rfl ?_ ?_ rfl rfl ?_ ono) ?_
         · exact (by first | exact Tryz.s7 | exact Tryz.s8 | exact Tryz.s31 | exact Tryz.s56 | exact Tryz.s222)
         · exact (by intro x e; cases e)
         · exact lbt rfl
         clear S; rintro h ⟨S, mo⟩; clear mo; simp only [List.set_cons_zero, List.set_cons_succ, an, lay, List.take, List.drop, List.nil_append, List.cons_append, List.append_nil, List.length_cons, List.length_nil, Nat.reduceAdd, Nat.add_zero] at S
         simp only [BS, LB, Nat.reduceLT, Nat.reduceEqDiff, Tryz.FFt3195, r0, S.lds (b := b9) (o := 0) (n := 6) (by repeat constructor) (lbt rfl)]
         refine fK Y' (s3.gr S.gr) (Y'.gr _ _ _ _ a S.gr) (i := 3 * i + 2) (by rw [List.getElem?_map, show (plA n A)[3 * i + 2]? = _ from hp.2.2, hd]; simp [gJ]) ?_ ?_ ?_
         · intro h4 F4 a s4 mo4 hF4
           simp only [BS, LB, Nat.reduceLT, Nat.reduceEqDiff, Int.reduceAdd, w3]
           rw [ce]
           simp only [BS, LB, Nat.reduceLT, Nat.reduceEqDiff, Int.reduceLT, r13, w]
           exact ih (i + 1) _ _ (by omega) ⟨by omega, F4, s4, a, by simp [aa, r0], by simp [aa, r3], by simp [aa, r11], by simp [aa, r12], by simp [aa]⟩
         · intro h' a _
           simp only [BS, LB, Nat.reduceLT, Nat.reduceEqDiff]
           exact iN rfl ⟨rfl, .inr (.inl ⟨_, rfl, a⟩)⟩
         · intro v h' a
           simp only [BS]
           exact g8 (dN ⟨rfl, .inr (.inr ⟨_, rfl, a⟩)⟩)
       · intro h' a _
         simp only [BS, LB, Nat.reduceLT, Nat.reduceEqDiff]
         exact iN rfl ⟨rfl, .inr (.inl ⟨_, rfl, a⟩)⟩
       · intro v h' a
         simp only [BS]
         exact g8 (dN ⟨rfl, .inr (.inr ⟨_, rfl, a⟩)⟩)
     · intro h' a _
       simp only [BS, LB, Nat.reduceLT, Nat.reduceEqDiff]
       exact iN rfl ⟨rfl, .inr (.inl ⟨_, rfl, a⟩)⟩
     · intro v h' a
       simp only [BS]
       exact g8 (dN ⟨rfl, .inr (.inr ⟨_, rfl, a⟩)⟩)
   · simp only [BS, LB, Nat.reduceLT, r12, r13, aF, hlt]
     have : i = A.length := by omega
     subst this
     exact d6 (dN ⟨rfl, _, rfl, rfl, .inl ⟨_, F, rfl, by simpa [plA_len] using hj⟩⟩)
 · exact ⟨by omega, F, s, hj, by simp [aa, cV], by simp [aa], by simp [aa], by simp [aa], by simp [aa]⟩
end Go.Ab

end
section
namespace Go.Ab
open Go.Proofs
set_option maxRecDepth 10000
open Tryz in
def Tryz.FFt4156 := aj a1 <| aj s1 <| aj z1 <| aj n1 <| aj u2 <| aj a2 <| aj s2 <| aj z2 <| aj i2 <| aj u3 <| aj a3 <| aj s3 <| aj z3 <| aj i3 <| aj u25 <| aj a25 <| aj s25 <| aj z25 <| aj q25 <| aj n25 <| aj u29 <| aj a29 <| aj s29 <| aj z29 <| aj q29 <| aj n29 <| aj a31 <| aj s31 <| aj z31 <| aj i31 <| aj n31 <| aj p31 <| aj ff31 <| aj d31 <| aj u47 <| aj a47 <| aj s47 <| aj z47 <| aj i47 <| aj a56 <| aj s56 <| aj z56 <| aj i56 <| aj n56 <| aj p56 <| aj ff56 <| aj d56 <| aj a216 <| aj s216 <| aj z216 <| n216
open Tryz in
def Tryz.FFt4158 := aj a1 <| aj s1 <| aj z1 <| aj n1 <| aj u2 <| aj a2 <| aj s2 <| aj z2 <| aj i2 <| aj u3 <| aj a3 <| aj s3 <| aj z3 <| aj i3 <| aj u25 <| aj a25 <| aj s25 <| aj z25 <| aj q25 <| aj n25 <| aj u29 <| aj a29 <| aj s29 <| aj z29 <| aj q29 <| aj n29 <| aj a31 <| aj s31 <| aj z31 <| aj i31 <| aj n31 <| aj p31 <| aj ff31 <| aj d31 <| aj a56 <| aj s56 <| aj z56 <| aj i56 <| aj n56 <| aj p56 <| aj ff56 <| aj d56 <| aj a216 <| aj s216 <| aj z216 <| n216
open Tryz in
def Tryz.FFt4162 := aj a1 <| aj s1 <| aj z1 <| aj n1 <| aj u2 <| aj a2 <| aj s2 <| aj z2 <| aj i2 <| aj u3 <| aj a3 <| aj s3 <| aj z3 <| aj i3 <| aj u25 <| aj a25 <| aj s25 <| aj z25 <| aj q25 <| aj n25 <| aj u29 <| aj a29 <| aj s29 <| aj z29 <| aj q29 <| aj n29 <| aj a31 <| aj s31 <| aj z31 <| aj i31 <| aj n31 <| aj p31 <| aj ff31 <| aj d31 <| aj u47 <| aj a47 <| aj s47 <| aj z47 <| aj i47 <| aj a56 <| aj s56 <| aj z56 <| aj i56 <| aj n56 <| aj p56 <| aj ff56 <| aj d56 <| aj a216 <| aj s216 <| aj z216 <| n216
open Tryz in
def Tryz.FFt4160 := aj a1 <| aj s1 <| aj z1 <| aj n1 <| aj u2 <| aj a2 <| aj s2 <| aj z2 <| aj i2 <| aj u3 <| aj a3 <| aj s3 <| aj z3 <| aj i3 <| aj u25 <| aj a25 <| aj s25 <| aj z25 <| aj q25 <| aj n25 <| aj u29 <| aj a29 <| aj s29 <| aj z29 <| aj q29 <| aj n29 <| aj a31 <| aj s31 <| aj z31 <| aj i31 <| aj n31 <| aj p31 <| aj ff31 <| aj d31 <| aj a56 <| aj s56 <| aj z56 <| aj i56 <| aj n56 <| aj p56 <| aj ff56 <| aj d56 <| aj a216 <| aj s216 <| aj z216 <| n216
open Tryz in
def Tryz.FFt4163 := aj a1 <| aj s1 <| aj z1 <| aj n1 <| aj u2 <| aj a2 <| aj s2 <| aj z2 <| aj i2 <| aj u3 <| aj a3 <| aj s3 <| aj z3 <| aj i3 <| aj u25 <| aj a25 <| aj s25 <| aj z25 <| aj q25 <| aj n25 <| aj u29 <| aj a29 <| aj s29 <| aj z29 <| aj q29 <| aj n29 <| aj a31 <| aj s31 <| aj z31 <| aj i31 <| aj n31 <| aj p31 <| aj ff31 <| aj d31 <| aj a56 <| aj s56 <| aj z56 <| aj i56 <| aj n56 <| aj p56 <| aj ff56 <| aj d56 <| aj a216 <| aj s216 <| aj z216 <| n216
theorem look1_ok {h0 : Hp} (ok : h0.t.Sized h0.n) {γ : Gra} (hγ : Good γ) {vx vy va : Value} {b : Nat} (hb : Row h0 b [.int .i64 γ.nodes, vx, vy, va] 1) : Ret Tryz.abEnv 156 [ptrTo b] h0 fun v h' => Gr h0 h' ∧ jC 0 h0.n v h' := by
 have S := St.init (M := NoM) ok
 have n1 := hγ.n1
 have n2 := hγ.n2
 refine ah (n := 5) (rs := [.tmp 1]) rfl Tryz.e156 rfl rfl rfl (lbt rfl) ?_
 simp only [BS, LB, Nat.reduceLT, Nat.reduceEqDiff, Tryz.FFt4156, hb.load1 (o := 0) rfl]
 refine step_ret (one_ok S.ok (by omega) (by omega)) ?_; intro v h ⟨g, t⟩; replace S := S.call g; clear g
 simp only [BS, LB, ag, Nat.reduceLT, Nat.reduceEqDiff]
 exact ⟨S.gr, t⟩
theorem look2_ok {h0 : Hp} (ok : h0.t.Sized h0.n) {γ : Gra} (hγ : Good γ) {vx vy va : Value} (ga : cL h0 vx vy va γ) {b : Nat} (hb : Row h0 b [.int .i64 γ.nodes, vx, vy, va] 1) : Ret Tryz.abEnv 158 [ptrTo b] h0 fun v h' => Gr h0 h' ∧ jC 0 h0.n v h' := by
 have S := St.init (M := NoM) ok
 refine ah (n := 4) (rs := [.tmp 1]) rfl Tryz.e158 rfl rfl rfl (lbt rfl) ?_
 simp only [BS, LB, Nat.reduceLT, Nat.reduceEqDiff, Tryz.FFt4158, hb.load (o := 0) (n := 4) (lbt rfl)]
 refine step_ret (shapes_ok S.ok hγ ga) ?_; intro v h ⟨g, t⟩; replace S := S.call g; clear g
 simp only [BS, LB, ag, Nat.reduceLT, Nat.reduceEqDiff]
 exact ⟨S.gr, t⟩
theorem look4_ok {h0 : Hp} (ok : h0.t.Sized h0.n) {γ : Gra} (hγ : Good γ) {vx vy va : Value} (ga : cL h0 vx vy va γ) {b : Nat} (hb : Row h0 b [.int .i64 γ.nodes, vx, vy, va] 1) : Ret Tryz.abEnv 162 [ptrTo b] h0 fun v h' => Gr h0 h' ∧ jC 0 h0.n v h' := by
 have S := St.init (M := NoM) ok
 have n2 := hγ.many
 refine ah (n := 6) (rs := [.tmp 1]) rfl Tryz.e162 rfl rfl rfl (lbt rfl) ?_
 simp only [BS, LB, Nat.reduceLT, Nat.reduceEqDiff, Tryz.FFt4162, hb.load1 (o := 3) rfl, ga.A.lenq]
 refine step_ret (one_ok S.ok (by omega) (by omega)) ?_; intro v h ⟨g, t⟩; replace S := S.call g; clear g
 simp only [BS, LB, ag, Nat.reduceLT, Nat.reduceEqDiff]
 exact ⟨S.gr, t⟩
theorem look3_ok {h0 : Hp} (ok : h0.t.Sized h0.n) {γ : Gra} (hγ : Good γ) {vx vy va : Value} (ga : cL h0 vx vy va γ) {b n0 : Nat} (hX : ∀ c, ax vx c → c < n0) (hY : ∀ c, ax vy c → c < n0) (hb : Row h0 b [.int .i64 γ.nodes, vx, vy, va] 1) : Ret Tryz.abEnv 160 [ptrTo b] h0 fun v h' => Gr h0 h' ∧ jC n0 h0.n v h' := by
 have S := St.init (M := NoM) ok
 have n2 := hγ.n2
 have lX := hγ.lX
 have lY := hγ.lY
 refine ah (n := 4) (rs := [.tmp 1]) rfl Tryz.e160 rfl rfl rfl (lbt rfl) ?_
 simp only [BS, LB, Nat.reduceLT, Nat.reduceEqDiff, Tryz.FFt4160, hb.load (o := 0) (n := 4) (lbt rfl)]
 refine step_ret (nodes_ok S.ok) ?_; intro v h ⟨g, b2, e, q2, R⟩; replace S := S.call g; clear g
 subst e
 simp only [BS, LB, ag, Nat.reduceLT, Nat.reduceEqDiff]
 refine ⟨S.gr, _, #[], #[ptrTo b2], _, _, rfl, uH S.ok R (ga.X.gr S.gr) (ga.Y.gr S.gr) (by omega) (by omega), fun p hp => ?_, fun c hc => ?_⟩
 · unfold plN at hp
   simp only [List.mem_flatMap, List.mem_range, List.mem_cons, List.not_mem_nil, or_false] at hp
   obtain ⟨i, hi, rfl | rfl⟩ := hp
   · have := hγ.cX γ.X[i] (List.getElem_mem hi)
     simp only [List.getD_eq_getElem?_getD, List.getElem?_eq_getElem hi, Option.getD_some]; omega
   · have hi' : i < γ.Y.length := by omega
     have := hγ.cY γ.Y[i] (List.getElem_mem hi')
     simp only [List.getD_eq_getElem?_getD, List.getElem?_eq_getElem hi', Option.getD_some]; omega
 · rcases hc with rfl | hc | hc
   · exact .inr q2
   · exact .inl (hX c hc)
   · exact .inl (hY c hc)
theorem look5_ok {h0 : Hp} (ok : h0.t.Sized h0.n) {γ : Gra} (hγ : Good γ) {vx vy va : Value} (ga : cL h0 vx vy va γ) {b n0 : Nat} (hA : ∀ c, ax va c → c < n0) (hb : Row h0 b [.int .i64 γ.nodes, vx, vy, va] 1) : Ret Tryz.abEnv 163 [ptrTo b] h0 fun v h' => Gr h0 h' ∧ jC n0 h0.n v h' := by
 have S := St.init (M := NoM) ok
 have n2 := hγ.many
 refine ah (n := 4) (rs := [.tmp 1]) rfl Tryz.e163 rfl rfl rfl (lbt rfl) ?_
 simp only [BS, LB, Nat.reduceLT, Nat.reduceEqDiff, Tryz.FFt4163, hb.load (o := 0) (n := 4) (lbt rfl)]
 refine step_ret (arcs_ok S.ok) ?_; intro v h ⟨g, b2, e, q2, R⟩; replace S := S.call g; clear g
 subst e
 simp only [BS, LB, ag, Nat.reduceLT, Nat.reduceEqDiff]
 refine ⟨S.gr, _, #[], #[ptrTo b2], _, _, rfl, arcs_iter S.ok R (ga.A.gr S.gr) (by omega), fun p hp => ?_, fun c hc => ?_⟩
 · unfold plA at hp
   simp only [List.mem_flatMap, List.mem_range, List.mem_cons, List.not_mem_nil, or_false] at hp
   obtain ⟨i, hi, h⟩ := hp
   have := hγ.arcs γ.arcs[i] (List.getElem_mem hi)
   simp only [List.getD_eq_getElem?_getD, List.getElem?_eq_getElem hi, Option.getD_some] at h
   rcases h with rfl | rfl | rfl <;> (simp only []; omega)
 · rcases hc with rfl | hc
   · exact .inr q2
   · exact .inl (hA c hc)
end Go.Ab

end
section
namespace Go.Ab
open Go.Proofs
set_option maxRecDepth 10000
open Tryz in
def Tryz.FFt5101 := aj a1 <| aj s1 <| aj z1 <| aj n1 <| aj u2 <| aj a2 <| aj s2 <| aj z2 <| aj i2 <| aj u3 <| aj a3 <| aj s3 <| aj z3 <| aj i3 <| aj u4 <| aj a4 <| aj s4 <| aj z4 <| aj n4 <| aj u5 <| aj a5 <| aj s5 <| aj z5 <| aj i5 <| aj u6 <| aj a6 <| aj s6 <| aj z6 <| aj i6 <| aj a7 <| aj s7 <| aj z7 <| aj i7 <| aj n7 <| aj p7 <| aj ff7 <| aj d7 <| aj a8 <| aj s8 <| aj z8 <| aj i8 <| aj n8 <| aj p8 <| aj ff8 <| aj d8 <| aj u17 <| aj a17 <| aj s17 <| aj z17 <| aj q17 <| aj i17 <| aj n17 <| aj a19 <| aj s19 <| aj z19 <| aj i19 <| aj n19 <| aj p19 <| aj ff19 <| aj d19 <| aj a20 <| aj s20 <| aj z20 <| aj q20 <| aj n20 <| aj u25 <| aj a25 <| aj s25 <| aj z25 <| aj q25 <| aj n25 <| aj u29 <| aj a29 <| aj s29 <| aj z29 <| aj q29 <| aj n29 <| aj a31 <| aj s31 <| aj z31 <| aj i31 <| aj n31 <| aj p31 <| aj ff31 <| aj d31 <| aj u47 <| aj a47 <| aj s47 <| aj z47 <| aj i47 <| aj a56 <| aj s56 <| aj z56 <| aj i56 <| aj n56 <| aj p56 <| aj ff56 <| aj d56 <| aj a102 <| aj s102 <| aj z102 <| aj i102 <| aj n102 <| aj p102 <| aj ff102 <| aj d102 <| aj u104 <| aj a104 <| aj s104 <| aj z104 <| aj q104 <| aj i104 <| aj n104 <| aj a167 <| aj s167 <| aj z167 <| aj i167 <| aj n167 <| aj p167 <| aj ff167 <| aj d167 <| aj a216 <| aj s216 <| aj z216 <| aj n216 <| aj a218 <| aj s218 <| aj z218 <| aj n218 <| aj u220 <| aj a220 <| aj s220 <| aj z220 <| aj q220 <| aj n220 <| aj a222 <| aj s222 <| aj z222 <| aj i222 <| aj n222 <| aj p222 <| aj ff222 <| aj d222 <| aj a310 <| aj s310 <| aj z310 <| aj i310 <| aj n310 <| aj p310 <| aj ff310 <| d310
theorem look_ok {h0 : Hp} (ok : h0.t.Sized h0.n) {γ : Gra} (hγ : Good γ) {vx vy va : Value} (ga : cL h0 vx vy va γ) : Ret Tryz.abEnv 101 [gU γ vx vy va] h0 fun v h' => Gr h0 h' := by
 have S := St.init (M := NoM) ok
 refine ah (n := 44) (rs := []) rfl Tryz.e101 rfl rfl rfl (lbt rfl) ?_
 simp only [BS, Nat.reduceLT, gU]
 refine ao (bS (by intro x e; cases e)) S ?_; clear S; intro h b S n_b; simp only [an] at S
 simp only [BS, LB, Nat.reduceLT, Nat.reduceEqDiff]
 refine ao (bT (by first | exact Tryz.u25 | exact Tryz.u29 | exact Tryz.u220) (by first | exact Tryz.e2E | exact Tryz.e56E | exact Tryz.e218E) (by decide) (by first | rfl | exact fillE )) S ?_; clear S; intro h bs S n_bs; simp only [aY, bD, an, List.cons_append, List.nil_append, List.append_nil, List.set_cons_zero, List.set_cons_succ, Nat.reduceMul, Nat.reduceAdd, Nat.zero_mul, Nat.zero_add, Nat.mul_one, Nat.one_mul] at S
 simp only [BS, LB, Nat.reduceLT, Nat.reduceEqDiff, Int.cast_ofNat_Int, Tryz.FFt5101]
 have hq : ∀ i, i < 5 → ∃ g a c, [Value.func (.func 156) #[] #[.pointer (some ⟨b, 0, none⟩)], .func (.func 158) #[] #[.pointer (some ⟨b, 0, none⟩)], .func (.func 160) #[] #[.pointer (some ⟨b, 0, none⟩)], .func (.func 162) #[] #[.pointer (some ⟨b, 0, none⟩)], .func (.func 163) #[] #[.pointer (some ⟨b, 0, none⟩)]][i]? = some (.func (.func g) a c) ∧
  ∀ h', Gr h h' → Ret Tryz.abEnv g (a.toList ++ c.toList) h' fun v h'' => Gr h' h'' ∧ jC h0.n h'.n v h'' := by
  intro i hi
  have hr := S.row (b := b) m1
  have ga' := ga.gr S.gr
  have wk : ∀ h' v h'', Gr h' h'' ∧ jC 0 h'.n v h'' → Gr h' h'' ∧ jC h0.n h'.n v h'' := by
   rintro h' v h'' ⟨a, gi, a1, a2, ps, D, b1, b2, b3, b4⟩
   exact ⟨a, gi, a1, a2, ps, D, b1, b2, b3, fun c hc => (b4 c hc).elim (fun h => by omega) .inr⟩
  match i, hi with
  | 0, _ => exact ⟨_, _, _, rfl, fun h' g => lC (look1_ok g.ok hγ (hr.gr g)) (wk h')⟩
  | 1, _ => exact ⟨_, _, _, rfl, fun h' g => lC (look2_ok g.ok hγ (ga'.gr g) (hr.gr g)) (wk h')⟩
  | 2, _ => exact ⟨_, _, _, rfl, fun h' g => look3_ok g.ok hγ (ga'.gr g) (fun c hc => ga.X.lt ok hc) (fun c hc => ga.Y.lt ok hc) (hr.gr g)⟩
  | 3, _ => exact ⟨_, _, _, rfl, fun h' g => lC (look4_ok g.ok hγ (ga'.gr g) (hr.gr g)) (wk h')⟩
  | 4, _ => exact ⟨_, _, _, rfl, fun h' g => look5_ok g.ok hγ (ga'.gr g) (fun c hc => ga.A.lt ok hc) (hr.gr g)⟩
 have Rs := S.row (b := bs) m0
 have g0 := S.gr
 have ok1 := S.ok
 clear S ga ok
 revert hq Rs
 generalize [Value.func (.func 156) #[] #[.pointer (some ⟨b, 0, none⟩)], .func (.func 158) #[] #[.pointer (some ⟨b, 0, none⟩)], .func (.func 160) #[] #[.pointer (some ⟨b, 0, none⟩)], .func (.func 162) #[] #[.pointer (some ⟨b, 0, none⟩)], .func (.func 163) #[] #[.pointer (some ⟨b, 0, none⟩)]] = fs
 intro hq Rs
 rename Hp => h1
 have lt1 := Rs.lt ok1
 have ge1 := g0.n
 have S := St.init (M := NoM) ok1
 refine mK (fun (i : Nat) ρ d h' => i ≤ 5 ∧ ∃ dbs : List Nat, d = dbs.map my ∧ St NoM h1 h' (dr dbs) [] ∧ ρ 10 = .slice (some ⟨bs, 0, none⟩) 5 5 ∧ ρ 11 = .int .i64 5 ∧ ρ 12 = .int .i64 i) (fun i => 5 - i) ?_ 0 _ _ _ ?_
 · clear S
   intro i ih ρ d h ⟨hi, dbs, hd, S, r10, r11, r12⟩
   have w : au .i64 ((i : Int) + 1) = ((i + 1 : Nat) : Int) := by rw [wrap64] <;> omega
   by_cases hlt : i < 5
   · obtain ⟨g, a, c, hfi, hr⟩ := hq i hlt
     have Rl := (Rs.gr S.gr).load1 hfi
     have hlt' : (i : Int) < 5 := by omega
     simp only [BS, LB, Nat.reduceLT, Nat.reduceEqDiff, Tryz.FFt5101, r10, r11, r12, hlt', hlt, Rl]
     refine ao aJ S ?_; clear S; intro h b2 S n_b2
     simp only [BS, LB, Nat.reduceLT, Nat.reduceEqDiff]
     first | refine ac (ab S (i := 0) rfl ?_ ?_ ?_ ono) ?_ | refine ac (ab S (i := 1) rfl ?_ ?_ ?_ ono) ?_ | refine ac (ab S (i := 2) rfl ?_ ?_ ?_ ono) ?_ | refine ac (ab S (i := 3) rfl ?_ ?_ ?_ ono) ?_ | refine ac (ab S (i := 4) rfl ?_ ?_ ?_ ono) ?_ | refine ac (ab S (i := 5) rfl ?_ ?_ ?_ ono) ?_ | refine ac (ab S (i := 6) rfl ?_ ?_ ?_ ono) ?_ | refine ac (ab S (i := 7) rfl ?_ ?_ ?_ ono) ?_
     · exact (by simp only [Tryz.FFt5101])
     · exact (by first | exact aM | exact aw | exact aX | exact aT | exact bo | exact aP | exact aU | exact aK | exact aV | exact bz | assumption)
     · exact Nat.lt_of_succ_le (lbt rfl)
     clear S; rintro h ⟨S, mo⟩; clear mo; simp only [List.set_cons_zero, List.set_cons_succ, an, lay, List.take, List.drop, List.nil_append, List.cons_append, List.append_nil, List.length_cons, List.length_nil, Nat.reduceAdd, Nat.add_zero] at S
     simp only [BS, LB, Nat.reduceLT, Nat.reduceEqDiff]
     replace S := S.drop1
     have kl : ∀ b ∈ keys (dr dbs) [], b < h.n := fun b hb => S.key_lt hb
     refine step_ret (hr _ S.gr) ?_; intro v h ⟨g, gi, a2, post, ps, D, e, it, hps, hD⟩; replace S := S.call g; clear g
     subst e
     simp only [BS]
     refine kL S (g := gi) (a := a2) (b := post) (by simp [cK, aa]) rfl rfl ?_
     intro h2 db lb S' hdb hlb g2
     obtain ⟨X, hX, S'⟩ : ∃ X : fg, X = _ ∧ St NoM h1 h2 ((lb, .loop X) :: (db, .dfr) :: dr dbs) [] := ⟨_, rfl, S'⟩
     have hJ : Yld Tryz.abEnv lb (fun _ h' F => St NoM h1 h' ((lb, .loop X) :: (db, .dfr) :: dr dbs) [] ∧ F = keys ((lb, .loop X) :: (db, .dfr) :: dr dbs) []) (fun _ _ => False) (ps.map fun p => [.agg ⟨gJ p⟩]) := by
      refine ⟨?_, ?_, fun _ _ h => h.elim, ?_⟩
      · rintro i h F ⟨S, rfl⟩; exact ⟨S.ok, fun b hb => S.key_lt hb⟩
      · rintro i h F h' ⟨S, rfl⟩ g; exact ⟨S.call g, rfl⟩
      · rintro i x h F hx ⟨S, rfl⟩
        obtain ⟨p, hp, rfl⟩ : ∃ p ∈ ps, x = [.agg ⟨gJ p⟩] := by
         rw [List.getElem?_map, Option.map_eq_some_iff] at hx
         obtain ⟨p, h1, h2⟩ := hx
         exact ⟨p, List.mem_of_getElem? h1, h2.symm⟩
        obtain ⟨p1, p2⟩ := hps p hp
        have p1' : ¬ p.n < p.lo := by omega
        have p2' : ¬ p.hi ≤ p.n := by omega
        subst hX
        refine kT (S.get m0) (by rw [Tryz.e101]; rfl) rfl ?_
        have S0 := S
        replace S := S.base
        simp only [BS, Tryz.FFt5101]
        refine ao aJ S ?_; clear S; intro h b4 S n_b4
        simp only [BS, LB, Nat.reduceLT, Nat.reduceEqDiff, gJ]
        first | refine ac (S.store (i := 0) rfl ?_ ?_ rfl rfl ?_ ono) ?_ | refine ac (S.store (i := 1) rfl ?_ ?_ rfl rfl ?_ ono) ?_ | refine ac (S.store (i := 2) rfl ?_ ?_ rfl rfl ?_ ono) ?_ | refine ac (S.store (i := 3) rfl ?_ ?_ rfl rfl ?_ ono) ?_ | refine ac (S.store (i := 4) rfl ?_ ?_ rfl rfl ?_ ono) ?_ | refine ac (S.store (i := 5) rfl ?_ ?_ rfl rfl ?_ ono) ?_ | refine ac (S.store (i := 6) rfl ?_ ?_ rfl rfl ?_ ono) ?_ | refine ac (S.store (i := 7) rfl ?_ ?_ rfl rfl ?_ ono) ?_
        · exact (by first | exact Tryz.s7 | exact Tryz.s8 | exact Tryz.s19 | exact Tryz.s31 | exact Tryz.s56 | exact Tryz.s102 | exact Tryz.s167 | exact Tryz.s222 | exact Tryz.s310)
        · exact (by intro x e; cases e)
        · exact lbt rfl
        clear S; rintro h ⟨S, mo⟩; clear mo; simp only [List.set_cons_zero, List.set_cons_succ, an, lay, List.take, List.drop, List.nil_append, List.cons_append, List.append_nil, List.length_cons, List.length_nil, Nat.reduceAdd, Nat.add_zero] at S
        simp only [BS]
        refine j6 S (i := 1) rfl rfl rfl rfl rfl ?_
        clear S; intro h S
        simp only [BS, LB, Nat.reduceLT, Nat.reduceEqDiff, Tryz.FFt5101, p1', p2', S.ld (b := b4) (o := 3) (by repeat constructor) rfl, S.ld (b := b4) (o := 4) (by repeat constructor) rfl, S.ld (b := b4) (o := 5) (by repeat constructor) rfl]
        refine hZ S (i := 1) rfl ?_
        clear S; intro h S
        exact .inl ⟨rfl, _, ⟨S0.rebase S.drop1, rfl⟩, S.fr, S.drop1.key_new⟩
     refine ja (sn it hJ (h := h2) (F := keys ((lb, .loop _) :: (db, .dfr) :: dr dbs) []) g2.fr (fun b hb hlt => ?_) ⟨S', rfl⟩) fun o rc h' y => mS y ?_
     · intro hd
       have hS := S'.key_own hb
       rcases hD b hd with hh | hh
       · rcases hS with hS | hS
         · omega
         · exact hS
       · rcases List.mem_cons.1 hb with rfl | hb
         · omega
         · rcases List.mem_cons.1 hb with rfl | hb
           · omega
           · have := kl b hb; omega
     · rintro F ⟨S, rfl⟩
       subst hX
       refine ⟨_, S.get m0, Nat.zero_ne_one, ?_⟩
       replace S := S.dead
       show Run _ _ _ _ _ _ _ _
       simp only [BS, LB, Nat.reduceLT, Nat.reduceEqDiff, r12, w]
       exact ih (i + 1) _ _ _ (by omega) ⟨by omega, db :: dbs, by rw [hd]; rfl, S, by simp [aa, r10], by simp [aa, r11], by simp [aa]⟩
   · have hlt' : ¬ (i : Int) < 5 := by omega
     simp only [BS, LB, Nat.reduceLT, r11, r12, hlt']
     subst hd
     refine d6 (ly dbs h (L := []) (by rw [List.append_nil]; exact S) fun h' S' => ⟨rfl, _, rfl, g0.trans S'.gr⟩)
 · exact ⟨by omega, [], rfl, S, by simp [aa], by simp [aa], by simp [aa]⟩
end Go.Ab

end
section
namespace Go.Ab
theorem aB.form {α : Type} {h : Hp} {k : Nat} {enc : α → List Value} {v : Value} {xs : List α} (s : aB h k enc v xs) : ∃ a n c, v = .slice a n c := by
 rcases s with ⟨rfl, _⟩ | ⟨b, o, s, c, rfl, _⟩ <;> exact ⟨_, _, _, rfl⟩
section
variable {M : Nat → Prop} {h0 h : Hp} {E : Env} {L : List (Nat × Ob)} {G : List GL}
def WrK {α : Type} (h : Hp) (k : Nat) (enc : α → List Value) (w : Value) (l : List α) : Prop := l ≠ [] → ∃ b, w = .slice (some ⟨b, 0, some k⟩) l.length l.length ∧ Row h b (l.flatMap enc) 1
theorem WrK.mo {α : Type} {M : Nat → Prop} {h h' : Hp} {k : Nat} {enc : α → List Value} {w : Value} {l : List α} (r : WrK h k enc w l) (g : Mo M h h') (hm : ∀ b, ax w b → ¬ M b) : WrK h' k enc w l :=
 fun hl => by obtain ⟨b, e, k⟩ := r hl; exact ⟨b, e, g.has (o := .row _ 1) k (hm b (by rw [e]; rfl))⟩
theorem St.cloneW {α : Type} {enc : α → List Value} {ys : List α} (S : St M h0 h L G) {t tx e : TypeId} {by_ k md : Nat} {zs : List Value} {b : Nat} {x : Value} (hu : E.und t = some (.slice e)) (he : dD E e by_ k zs) (hb : 0 < by_)
 (hx : ay E tx = some false) (hs : aB h k enc x ys) (hen : ∀ x, (enc x).length = k) (hk : 0 < k) (hsz : (ys.length * k) * (by_ + 1) ≤ 70368744177664) {ts : List TypeId}
 (hl : Row h b [] md) :
 ∃ h' v', cR E h (t :: tx :: ts) (.slice (some ⟨b, 0, none⟩) 0 0) x = some (h', v') ∧ St M h0 h' L G ∧ Gr h h' ∧ aB h' k enc v' ys ∧ (∀ c, ax v' c → c = b ∨ h.n ≤ c) ∧ WrK h' k enc v' ys := by
 obtain ⟨h', v', h1, h2, h3, h4, h5⟩ := S.cloneSl (enc := enc) (xs := []) hu he hb hx hs hen hk (by simpa using hsz) (ts := ts) (b := b) (md := md) (by simpa using hl)
 refine ⟨h', v', h1, h2, h3, by simpa using h4, h5, fun hne => ?_⟩
 obtain ⟨h'', v'', k1, k2⟩ := S.clone hu he hb hx hs.src (aZ hen ys).symm (n := 0) (by simp) hk (by rw [aZ hen]; simpa using hsz) (ts := ts) hl
 have h1' : cR E h (t :: tx :: ts) (.slice (some ⟨b, 0, none⟩) 0 0) x = some (h', v') := h1
 rw [h1'] at k1
 cases k1
 rcases k2 with ⟨hm, _⟩ | ⟨b', e1, T⟩
 · exact absurd (List.length_eq_zero_iff.1 hm) hne
 · refine ⟨b', by rw [e1, Nat.zero_add], ?_⟩
   have := T.row (b := b') m0
   simpa using this
end
end Go.Ab

end
section
namespace Go.Ab
open Go.Proofs
set_option maxRecDepth 10000
open Tryz in
def Tryz.FFt6100 := aj a1 <| aj s1 <| aj z1 <| aj n1 <| aj u2 <| aj a2 <| aj s2 <| aj z2 <| aj i2 <| aj u3 <| aj a3 <| aj s3 <| aj z3 <| aj i3 <| aj u4 <| aj a4 <| aj s4 <| aj z4 <| aj n4 <| aj u5 <| aj a5 <| aj s5 <| aj z5 <| aj i5 <| aj a20 <| aj s20 <| aj z20 <| aj q20 <| aj n20 <| aj a35 <| aj s35 <| aj z35 <| aj q35 <| aj n35 <| aj a102 <| aj s102 <| aj z102 <| aj i102 <| aj n102 <| aj p102 <| aj ff102 <| aj d102 <| aj u104 <| aj a104 <| aj s104 <| aj z104 <| aj q104 <| aj i104 <| aj n104 <| aj a167 <| aj s167 <| aj z167 <| aj i167 <| aj n167 <| aj p167 <| aj ff167 <| d167
open Tryz in
def Tryz.FFt646 := aj a1 <| aj s1 <| aj z1 <| aj n1 <| aj u2 <| aj a2 <| aj s2 <| aj z2 <| aj i2 <| aj u3 <| aj a3 <| aj s3 <| aj z3 <| aj i3 <| aj u25 <| aj a25 <| aj s25 <| aj z25 <| aj q25 <| aj n25 <| aj u29 <| aj a29 <| aj s29 <| aj z29 <| aj q29 <| aj n29 <| aj a31 <| aj s31 <| aj z31 <| aj i31 <| aj n31 <| aj p31 <| aj ff31 <| aj d31 <| aj a35 <| aj s35 <| aj z35 <| aj q35 <| aj n35 <| aj a56 <| aj s56 <| aj z56 <| aj i56 <| aj n56 <| aj p56 <| aj ff56 <| d56
open Tryz in
def Tryz.FFt6106 := aj a1 <| aj s1 <| aj z1 <| aj n1 <| aj u2 <| aj a2 <| aj s2 <| aj z2 <| aj i2 <| aj u3 <| aj a3 <| aj s3 <| aj z3 <| aj i3 <| aj u4 <| aj a4 <| aj s4 <| aj z4 <| aj n4 <| aj u25 <| aj a25 <| aj s25 <| aj z25 <| aj q25 <| n25
open Tryz in
def Tryz.FFt6107 := aj a1 <| aj s1 <| aj z1 <| aj n1 <| aj u2 <| aj a2 <| aj s2 <| aj z2 <| aj i2 <| aj u3 <| aj a3 <| aj s3 <| aj z3 <| aj i3 <| aj u4 <| aj a4 <| aj s4 <| aj z4 <| aj n4 <| aj u29 <| aj a29 <| aj s29 <| aj z29 <| aj q29 <| aj n29 <| aj a56 <| aj s56 <| aj z56 <| aj i56 <| aj n56 <| aj p56 <| aj ff56 <| d56
theorem check1_ok {h0 : Hp} (ok : h0.t.Sized h0.n) {b : Nat} : d9 Tryz.abEnv 100 [ptrTo b] none h0 fun o rc h' => (∃ v, o = .ret v) ∧ rc = none ∧ Gr h0 h' := by
 have S := St.init (M := NoM) ok
 refine enter (n := 17) (rs := []) rfl Tryz.e100 rfl rfl rfl (lbt rfl) ?_
 simp only [BS, LB, Nat.reduceLT, Nat.reduceEqDiff, Tryz.FFt6100]
 exact d6 (dN ⟨rfl, _, rfl, ⟨_, rfl⟩, rfl, S.gr⟩)
theorem check_ok {h0 : Hp} (ok : h0.t.Sized h0.n) {γ : Gra} (hγ : Good γ) {vx vy va : Value} (ga : cL h0 vx vy va γ) : bQ Tryz.abEnv 46 [gU γ vx vy va] h0 .nilIface := by
 have S := St.init (M := NoM) ok
 refine ah (n := 6) (rs := [.cell 2 35]) rfl Tryz.e46 rfl rfl rfl (lbt rfl) ?_
 simp only [BS, Nat.reduceLT, gU]
 refine ao (bS (by intro x e; cases e)) S ?_; clear S; intro h b S n_b; simp only [an] at S
 simp only [BS, Tryz.FFt646]
 refine ao aJ S ?_; clear S; intro h b2 S n_b2
 simp only [BS, LB, Nat.reduceLT, Nat.reduceEqDiff, Tryz.FFt646, S.lds (b := b) (o := 0) (n := 4) (by repeat constructor) (lbt rfl)]
 refine step_ret (look_ok S.ok hγ (ga.gr S.gr)) ?_; intro v h g; replace S := S.call g; clear g
 simp only [BS, LB, Nat.reduceLT, Nat.reduceEqDiff]
 first | refine ac (ab S (i := 0) rfl ?_ ?_ ?_ ono) ?_ | refine ac (ab S (i := 1) rfl ?_ ?_ ?_ ono) ?_ | refine ac (ab S (i := 2) rfl ?_ ?_ ?_ ono) ?_ | refine ac (ab S (i := 3) rfl ?_ ?_ ?_ ono) ?_ | refine ac (ab S (i := 4) rfl ?_ ?_ ?_ ono) ?_ | refine ac (ab S (i := 5) rfl ?_ ?_ ?_ ono) ?_ | refine ac (ab S (i := 6) rfl ?_ ?_ ?_ ono) ?_ | refine ac (ab S (i := 7) rfl ?_ ?_ ?_ ono) ?_
 · exact (by simp only [Tryz.FFt646])
 · exact (by first | exact aM | exact aw | exact aX | exact aT | exact bo | exact aP | exact aU | exact aK | exact aV | exact bz | assumption)
 · exact Nat.lt_of_succ_le (lbt rfl)
 clear S; rintro h ⟨S, mo⟩; clear mo; simp only [List.set_cons_zero, List.set_cons_succ, an, lay, List.take, List.drop, List.nil_append, List.cons_append, List.append_nil, List.length_cons, List.length_nil, Nat.reduceAdd, Nat.add_zero] at S
 simp only [BS]
 refine iL (un_fn (ja (check1_ok S.ok) fun o rc h' ⟨a, b, g⟩ => ⟨a, b, dN ⟨rfl, ?_⟩⟩))
 replace S := S.call g
 have l := S.ld (b := b2) (o := 0) m0 rfl
 exact ⟨_, nw (by decide) (by simp only [bH, ae, Nat.reduceEqDiff, reduceIte]; exact uq Tryz.a35 l), rfl, S.gr⟩
theorem mb {h0 : Hp} (ok : h0.t.Sized h0.n) {v : Value} {xs : List Int} (hs : aB h0 1 (encI .i64) v xs) (hl : xs.length < 1000000) : Ret Tryz.abEnv 106 [v] h0 fun r h' => Gr h0 h' ∧ aB h' 1 (encI .i64) r xs ∧ ∀ c, ax r c → h0.n ≤ c := by
 have S := St.init (M := NoM) ok
 rcases hs with ⟨rfl, rfl⟩ | ⟨b, o, s, c, rfl, h2, h3⟩
 · refine ah (n := 8) (rs := [.tmp 2]) rfl Tryz.e106 rfl rfl rfl (lbt rfl) ?_
   simp only [BS, LB, ag, Nat.reduceLT, Nat.reduceEqDiff, Tryz.FFt6106]
   exact ⟨S.gr, .inl ⟨rfl, rfl⟩, fun c hc => hc.elim⟩
 · refine ah (n := 8) (rs := [.tmp 2]) rfl Tryz.e106 rfl rfl rfl (lbt rfl) ?_
   simp only [BS, LB, Nat.reduceLT, Nat.reduceEqDiff, Tryz.FFt6106]
   refine ao (bT (by first | exact Tryz.u25) (by first | exact Tryz.e2E) (by decide) (by first | rfl | exact fillE )) S ?_; clear S; intro h bb S n_bb; simp only [aY, bD, an, List.cons_append, List.nil_append, List.append_nil, List.set_cons_zero, List.set_cons_succ, Nat.reduceMul, Nat.reduceAdd, Nat.zero_mul, Nat.zero_add, Nat.mul_one, Nat.one_mul] at S
   simp only [BS, LB, Nat.reduceLT, Nat.reduceEqDiff]
   refine dt (S.cloneSl (enc := encI .i64) (xs := []) Tryz.u25 Tryz.e2E (by decide) Tryz.n25 (.inr ⟨b, o, s, c, rfl, h2, S.old h3 (fun h => h)⟩) (fun x => rfl) (by decide) (by simp only [List.length_nil, Nat.zero_add]; omega) (S.row m0)) ?_
   rintro h' v ⟨S', g, sl, hc⟩
   simp only [BS, LB, ag, Nat.reduceLT, Nat.reduceEqDiff]
   refine ⟨S'.gr, by simpa using sl, fun c h => (hc c h).elim (fun e => by omega) (fun e => Nat.le_trans S.fr.n e)⟩
theorem sO {h0 : Hp} (ok : h0.t.Sized h0.n) {v : Value} {xs : List Arc} (hs : aB h0 3 (cP) v xs) (hl : xs.length < 1000000) : Ret Tryz.abEnv 107 [v] h0 fun r h' => Gr h0 h' ∧ aB h' 3 (cP) r xs ∧ (∀ c, ax r c → h0.n ≤ c) ∧ WrK h' 3 cP r xs := by
 have S := St.init (M := NoM) ok
 rcases hs with ⟨rfl, rfl⟩ | ⟨b, o, s, c, rfl, h2, h3⟩
 · refine ah (n := 8) (rs := [.tmp 2]) rfl Tryz.e107 rfl rfl rfl (lbt rfl) ?_
   simp only [BS, LB, ag, Nat.reduceLT, Nat.reduceEqDiff, Tryz.FFt6107]
   exact ⟨S.gr, .inl ⟨rfl, rfl⟩, fun c hc => hc.elim, fun h => absurd rfl h⟩
 · refine ah (n := 8) (rs := [.tmp 2]) rfl Tryz.e107 rfl rfl rfl (lbt rfl) ?_
   simp only [BS, LB, Nat.reduceLT, Nat.reduceEqDiff, Tryz.FFt6107]
   refine ao (bT (by first | exact Tryz.u29) (by first | exact Tryz.e56E) (by decide) (by first | rfl | exact fillE )) S ?_; clear S; intro h bb S n_bb; simp only [aY, bD, an, List.cons_append, List.nil_append, List.append_nil, List.set_cons_zero, List.set_cons_succ, Nat.reduceMul, Nat.reduceAdd, Nat.zero_mul, Nat.zero_add, Nat.mul_one, Nat.one_mul] at S
   simp only [BS, LB, Nat.reduceLT, Nat.reduceEqDiff]
   refine dt (S.cloneW (enc := cP) (ys := xs) Tryz.u29 Tryz.e56E (by decide) Tryz.n29 (.inr ⟨b, o, s, c, rfl, h2, S.old h3 (fun h => h)⟩) (fun x => rfl) (by decide) (by omega) (S.row m0)) ?_
   rintro h' v ⟨S', g, sl, hc, w⟩
   simp only [BS, LB, ag, Nat.reduceLT, Nat.reduceEqDiff]
   exact ⟨S'.gr, sl, fun c h => (hc c h).elim (fun e => by omega) (fun e => Nat.le_trans S.fr.n e), w⟩
end Go.Ab

end
section
namespace Go.Ab
open Go.Proofs
set_option maxRecDepth 10000
open Tryz in
def Tryz.FFt798 := aj a1 <| aj s1 <| aj z1 <| aj n1 <| aj u2 <| aj a2 <| aj s2 <| aj z2 <| aj i2 <| aj u3 <| aj a3 <| aj s3 <| aj z3 <| aj i3 <| aj u4 <| aj a4 <| aj s4 <| aj z4 <| aj n4 <| aj u5 <| aj a5 <| aj s5 <| aj z5 <| aj i5 <| aj u22 <| aj a22 <| aj s22 <| aj z22 <| aj q22 <| aj n22 <| aj u97 <| aj a97 <| aj s97 <| aj z97 <| aj q97 <| aj i97 <| aj n97 <| aj a99 <| aj s99 <| aj z99 <| aj i99 <| aj n99 <| aj p99 <| aj ff99 <| d99
structure DrAt (h : Hp) (bd : Nat) (vB : Value) (xs : List Int) (a : Nat) : Prop where
 sl : aB h 1 (encI .u8) vB xs
 ne : ¬ ax vB bd
 few : xs.length < 1000000
 at_ : a < 100000
theorem en {h0 : Hp} (ok : h0.t.Sized h0.n) {bd a n : Nat} {vB : Value} {xs : List Int} (hr : Row h0 bd [vB, .int .i64 a] 1) (hd : DrAt h0 bd vB xs a) (hn : 1 ≤ n) (hn2 : n < 1000) :
 Ret Tryz.abEnv 98 [ptrTo bd, .int .i64 n] h0 fun v h' => Mo (· = bd) h0 h' ∧ ∃ r a' : Nat, v = .int .i64 r ∧ r < n ∧ a' ≤ a + 1 ∧ Row h' bd [vB, .int .i64 a'] 1 := by
 have S := St.init1 ok (o := .row [vB, .int .i64 a] 1) hr
 obtain ⟨hs, hne, hx, ha⟩ := hd
 have fl := hs.fl
 have w1 : au .i64 ((a : Int) + 1) = ((a + 1 : Nat) : Int) := by rw [wrap64] <;> omega
 have w2 : au .i64 (((a + 1 : Nat) : Int) - 1) = (a : Int) := by rw [wrap64] <;> omega
 have c1 : ¬ (n : Int) < 1 := by omega
 by_cases h0' : xs.length = 0
 · have c0 : (xs.length : Int) = 0 := by omega
   refine ah (n := 55) (rs := [.tmp 4]) rfl Tryz.e98 rfl rfl rfl (lbt rfl) ?_
   simp only [BS, LB, ag, Nat.reduceLT, Nat.reduceEqDiff, Tryz.FFt798, hs.lenq, c0, S.ld (b := bd) (o := 0) (by repeat constructor) rfl]
   exact ⟨S.fr, 0, a, rfl, by omega, by omega, S.row m0⟩
 · have c0 : ¬ (xs.length : Int) = 0 := by omega
   have hmod : a % xs.length < xs.length := Nat.mod_lt _ (by omega)
   have tm : (a : Int).tmod (xs.length : Int) = ((a % xs.length : Nat) : Int) := by rw [Int.tmod_eq_emod_of_nonneg (by omega)]; exact (Int.natCast_emod _ _).symm
   refine ah (n := 55) (rs := [.tmp 4]) rfl Tryz.e98 rfl rfl rfl (lbt rfl) ?_
   simp only [BS, LB, Nat.reduceLT, Nat.reduceEqDiff, Tryz.FFt798, hs.lenq, c0, c1, w1, S.ld (b := bd) (o := 0) (by repeat constructor) rfl, S.ld (b := bd) (o := 1) (by repeat constructor) rfl]
   first | refine ac (ab S (i := 0) rfl ?_ ?_ ?_ ono) ?_ | refine ac (ab S (i := 1) rfl ?_ ?_ ?_ ono) ?_ | refine ac (ab S (i := 2) rfl ?_ ?_ ?_ ono) ?_ | refine ac (ab S (i := 3) rfl ?_ ?_ ?_ ono) ?_ | refine ac (ab S (i := 4) rfl ?_ ?_ ?_ ono) ?_ | refine ac (ab S (i := 5) rfl ?_ ?_ ?_ ono) ?_ | refine ac (ab S (i := 6) rfl ?_ ?_ ?_ ono) ?_ | refine ac (ab S (i := 7) rfl ?_ ?_ ?_ ono) ?_
   · exact (by simp only [Tryz.FFt798])
   · exact (by first | exact aM | exact aw | exact aX | exact aT | exact bo | exact aP | exact aU | exact aK | exact aV | exact bz | assumption)
   · exact Nat.lt_of_succ_le (lbt rfl)
   clear S; rintro h ⟨S, mo⟩; clear mo; simp only [List.set_cons_zero, List.set_cons_succ, an, lay, List.take, List.drop, List.nil_append, List.cons_append, List.append_nil, List.length_cons, List.length_nil, Nat.reduceAdd, Nat.add_zero] at S
   have hs' : aB h 1 (encI .u8) vB xs := hs.mo S.fr (fun b hb e => hne (e ▸ hb))
   obtain ⟨c, o, hidx, hld⟩ := hs'.ix (kd := .i64) (cN _) hmod
   have cz : (xs.length : Int) ≠ 0 := c0
   have cn : (n : Int) ≠ 0 := by omega
   simp only [BS]
   refine aI (aR rfl) (q := 0) (ps := []) (by kernel_rfl) ?_
   simp only [BS, LB, fQ, bI, fS, cls, ag, Nat.reduceLT, Nat.reduceEqDiff, Nat.reduceAdd, Nat.reducePow, Nat.reduceDiv, Nat.reduceMod, Nat.reduceLeDiff, Tryz.FFt798, hs'.lenq, w2, lO cz, b_quo cz, lO cn, tm, hidx, hld, encI, S.ld (b := bd) (o := 0) (by repeat constructor) rfl, S.ld (b := bd) (o := 1) (by repeat constructor) rfl]
   have key : ∀ z : Int, ∃ r : Nat, (au .i64 (au .u8 z)).tmod (n : Int) = (r : Int) ∧ r < n := by
    intro z
    have h8 := wrap8 z
    rw [wrap64 (by omega) (by omega), Int.tmod_eq_emod_of_nonneg (by omega)]
    have h1 := Int.emod_nonneg (au .u8 z) cn
    have h2 := Int.emod_lt_of_pos (au .u8 z) (show (0 : Int) < n by omega)
    exact ⟨(au .u8 z % n).toNat, by omega, by omega⟩
   obtain ⟨r, e, hr⟩ := key _
   rw [e]
   exact ⟨S.fr, r, a + 1, rfl, hr, Nat.le_refl _, S.row m0⟩
theorem DrAt.mo {h h' : Hp} {bd : Nat} {vB : Value} {xs : List Int} {a a' : Nat} (d : DrAt h bd vB xs a) (f : Mo (· = bd) h h') (ha : a' < 100000) : DrAt h' bd vB xs a' :=
 ⟨d.sl.mo f (fun b hb e => d.ne (e ▸ hb)), d.ne, d.few, ha⟩
theorem DrAt.gr {h h' : Hp} {bd : Nat} {vB : Value} {xs : List Int} {a : Nat} (d : DrAt h bd vB xs a) (g : Gr h h') : DrAt h' bd vB xs a := ⟨d.sl.gr g, d.ne, d.few, d.at_⟩
theorem qJ {h0 : Hp} (ok : h0.t.Sized h0.n) {bd a : Nat} {vB : Value} {xs : List Int} (hr : Row h0 bd [vB, .int .i64 a] 1) (hd : DrAt h0 bd vB xs a) (ha : a + 2 < 100000) :
 Ret Tryz.abEnv 99 [ptrTo bd] h0 fun v h' => Mo (· = bd) h0 h' ∧ ∃ r a' : Nat, v = .int .i64 r ∧ r ≤ 2147483647 ∧ a' ≤ a + 2 ∧ Row h' bd [vB, .int .i64 a'] 1 := by
 have S := St.init1 ok (o := .row [vB, .int .i64 a] 1) hr
 refine ah (n := 24) (rs := [.tmp 2]) rfl Tryz.e99 rfl rfl rfl (lbt rfl) ?_
 simp only [BS, LB, Nat.reduceLT, Nat.reduceEqDiff]
 refine step_ret (en (n := 12) S.ok (S.row m0) hd (by omega) (by omega)) ?_
 rintro v h ⟨f, r, a1, rfl, hr1, ha1, R1⟩
 replace S := S.call1 (i := 0) rfl f (o' := .row _ _) R1
 have hd1 : DrAt h bd vB xs a1 := hd.mo f (by omega)
 simp only [List.set_cons_zero] at S
 by_cases c1 : (r : Int) < 3
 · simp only [BS, LB, ag, Nat.reduceLT, Nat.reduceEqDiff, c1]
   exact ⟨S.fr, 0, a1, rfl, by omega, by omega, S.row m0⟩
 · by_cases c2 : (r : Int) < 10
   · simp only [BS, LB, Nat.reduceLT, Nat.reduceEqDiff, c1, c2]
     refine step_ret (en (n := 9) S.ok (S.row m0) hd1 (by omega) (by omega)) ?_
     rintro v h ⟨f, r2, a2, rfl, hr2, ha2, R2⟩
     replace S := S.call1 (i := 0) rfl f (o' := .row _ _) R2
     simp only [List.set_cons_zero] at S
     have w1 : au .i64 (1 + (r2 : Int)) = ((1 + r2 : Nat) : Int) := by rw [wrap64] <;> omega
     simp only [BS, LB, ag, Nat.reduceLT, Nat.reduceEqDiff, w1]
     exact ⟨S.fr, 1 + r2, a2, rfl, by omega, by omega, S.row m0⟩
   · by_cases c3 : (r : Int) < 11
     · simp only [BS, LB, Nat.reduceLT, Nat.reduceEqDiff, c1, c2, c3]
       refine step_ret (en (n := 20) S.ok (S.row m0) hd1 (by omega) (by omega)) ?_
       rintro v h ⟨f, r2, a2, rfl, hr2, ha2, R2⟩
       replace S := S.call1 (i := 0) rfl f (o' := .row _ _) R2
       simp only [List.set_cons_zero] at S
       have w1 : au .i64 (100 * (r2 : Int)) = ((100 * r2 : Nat) : Int) := by rw [wrap64] <;> omega
       simp only [BS, LB, ag, Nat.reduceLT, Nat.reduceEqDiff, w1]
       exact ⟨S.fr, 100 * r2, a2, rfl, by omega, by omega, S.row m0⟩
     · simp only [BS, LB, Nat.reduceLT, Nat.reduceEqDiff, c1, c2, c3]
       refine step_ret (en (n := 2) S.ok (S.row m0) hd1 (by omega) (by omega)) ?_
       rintro v h ⟨f, r2, a2, rfl, hr2, ha2, R2⟩
       replace S := S.call1 (i := 0) rfl f (o' := .row _ _) R2
       simp only [List.set_cons_zero] at S
       have w1 : au .i64 (2147483647 - (r2 : Int)) = ((2147483647 - r2 : Nat) : Int) := by rw [wrap64] <;> omega
       simp only [BS, LB, ag, Nat.reduceLT, Nat.reduceEqDiff, w1]
       exact ⟨S.fr, 2147483647 - r2, a2, rfl, by omega, by omega, S.row m0⟩
end Go.Ab

end
section
namespace Go.Ab
open Go.Proofs
set_option maxRecDepth 10000
open Tryz in
def Tryz.FFt845 := aj a1 <| aj s1 <| aj z1 <| aj n1 <| aj u2 <| aj a2 <| aj s2 <| aj z2 <| aj i2 <| aj u3 <| aj a3 <| aj s3 <| aj z3 <| aj i3 <| aj u4 <| aj a4 <| aj s4 <| aj z4 <| aj n4 <| aj u5 <| aj a5 <| aj s5 <| aj z5 <| aj i5 <| aj u6 <| aj a6 <| aj s6 <| aj z6 <| aj i6 <| aj a7 <| aj s7 <| aj z7 <| aj i7 <| aj n7 <| aj p7 <| aj ff7 <| aj d7 <| aj a8 <| aj s8 <| aj z8 <| aj i8 <| aj n8 <| aj p8 <| aj ff8 <| aj d8 <| aj u9 <| aj a9 <| aj s9 <| aj z9 <| aj n9 <| aj u10 <| aj a10 <| aj s10 <| aj z10 <| aj n10 <| aj u11 <| aj a11 <| aj s11 <| aj z11 <| aj n11 <| aj u12 <| aj a12 <| aj s12 <| aj z12 <| aj i12 <| aj a13 <| aj s13 <| aj z13 <| aj i13 <| aj n13 <| aj p13 <| aj ff13 <| aj d13 <| aj a14 <| aj s14 <| aj z14 <| aj i14 <| aj n14 <| aj p14 <| aj ff14 <| aj d14 <| aj u15 <| aj a15 <| aj s15 <| aj z15 <| aj q15 <| aj i15 <| aj n15 <| aj u16 <| aj a16 <| aj s16 <| aj z16 <| aj q16 <| aj i16 <| aj n16 <| aj u17 <| aj a17 <| aj s17 <| aj z17 <| aj q17 <| aj i17 <| aj n17 <| aj a18 <| aj s18 <| aj z18 <| aj i18 <| aj n18 <| aj p18 <| aj ff18 <| aj d18 <| aj a19 <| aj s19 <| aj z19 <| aj i19 <| aj n19 <| aj p19 <| aj ff19 <| aj d19 <| aj a20 <| aj s20 <| aj z20 <| aj q20 <| aj n20 <| aj u21 <| aj a21 <| aj s21 <| aj z21 <| aj i21 <| aj u22 <| aj a22 <| aj s22 <| aj z22 <| aj q22 <| aj n22 <| aj u23 <| aj a23 <| aj s23 <| aj z23 <| aj n23 <| aj u25 <| aj a25 <| aj s25 <| aj z25 <| aj q25 <| aj n25 <| aj u29 <| aj a29 <| aj s29 <| aj z29 <| aj q29 <| aj n29 <| aj a31 <| aj s31 <| aj z31 <| aj i31 <| aj n31 <| aj p31 <| aj ff31 <| aj d31 <| aj a56 <| aj s56 <| aj z56 <| aj i56 <| aj n56 <| aj p56 <| aj ff56 <| aj d56 <| aj u97 <| aj a97 <| aj s97 <| aj z97 <| aj q97 <| aj i97 <| aj n97 <| aj a99 <| aj s99 <| aj z99 <| aj i99 <| aj n99 <| aj p99 <| aj ff99 <| aj d99 <| aj u156 <| aj a156 <| aj s156 <| aj z156 <| aj q156 <| aj i156 <| aj n156 <| aj u231 <| aj a231 <| aj s231 <| aj z231 <| aj i231 <| aj u283 <| aj a283 <| aj s283 <| aj z283 <| aj i283 <| aj a300 <| aj s300 <| aj z300 <| aj i300 <| aj n300 <| aj p300 <| aj ff300 <| aj d300 <| aj u301 <| aj a301 <| aj s301 <| aj z301 <| aj n301 <| aj a303 <| aj s303 <| aj z303 <| aj i303 <| aj n303 <| aj u305 <| aj a305 <| aj s305 <| aj z305 <| aj i305 <| aj a306 <| aj s306 <| aj z306 <| aj n306 <| aj u307 <| aj a307 <| aj s307 <| aj z307 <| aj i307 <| aj u308 <| aj a308 <| aj s308 <| aj z308 <| aj i308 <| aj a310 <| aj s310 <| aj z310 <| aj i310 <| aj n310 <| aj p310 <| aj ff310 <| d310
def ints (l : List Int) : List Value := l.flatMap (encI .i64)
theorem cb (l : List Int) : (ints l).length = l.length := by unfold ints; rw [aZ (k := 1) (fun _ => rfl)]; omega
theorem jt (l m : List Int) : ints (l ++ m) = ints l ++ ints m := by unfold ints; rw [List.flatMap_append]
theorem raw_ok {h0 : Hp} (ok : h0.t.Sized h0.n) {bd : Nat} {vB : Value} {xs : List Int} (hr : Row h0 bd [vB, .int .i64 ((0 : Nat) : Int)] 1) (hd : DrAt h0 bd vB xs 0) :
 Ret Tryz.abEnv 45 [ptrTo bd] h0 fun v h' => Mo (· = bd) h0 h' ∧ ∃ γ vx vy va, v = gU γ vx vy va ∧ Good γ ∧ cL h' vx vy va γ ∧ ∀ c, (ax vx c ∨ ax vy c ∨ ax va c) → h0.n ≤ c := by
 have S := St.init1 ok (o := .row [vB, .int .i64 ((0 : Nat) : Int)] 1) hr
 have lt0 := hr.lt ok
 refine ah (n := 117) (rs := [.cell 2 31]) rfl Tryz.e45 rfl rfl rfl (lbt rfl) ?_
 simp only [BS, Tryz.FFt845]
 refine ao aJ S ?_; clear S; intro h b2 S n_b2
 simp only [BS, LB, Nat.reduceLT, Nat.reduceEqDiff]
 refine step_ret (en (n := 12) (a := 0) S.ok (S.row m1) (hd.mo S.fr (by omega)) (by omega) (by omega)) ?_
 rintro v h ⟨f, r0, a0, rfl, hr0, ha0, R⟩
 replace S := S.call1 (i := 1) rfl f (o' := .row _ _) R
 simp only [List.set_cons_zero, List.set_cons_succ] at S
 have w1 : au .i64 (1 + (r0 : Int)) = ((1 + r0 : Nat) : Int) := by rw [wrap64] <;> omega
 simp only [BS, LB, Nat.reduceLT, Nat.reduceEqDiff, Nat.reduceAdd, Tryz.FFt845, w1]
 refine ao aJ S ?_; clear S; intro h b3 S n_b3
 simp only [BS, LB, Nat.reduceLT, Nat.reduceEqDiff]
 first | refine ac (S.store (i := 0) rfl ?_ ?_ rfl rfl ?_ ono) ?_ | refine ac (S.store (i := 1) rfl ?_ ?_ rfl rfl ?_ ono) ?_ | refine ac (S.store (i := 2) rfl ?_ ?_ rfl rfl ?_ ono) ?_ | refine ac (S.store (i := 3) rfl ?_ ?_ rfl rfl ?_ ono) ?_ | refine ac (S.store (i := 4) rfl ?_ ?_ rfl rfl ?_ ono) ?_ | refine ac (S.store (i := 5) rfl ?_ ?_ rfl rfl ?_ ono) ?_ | refine ac (S.store (i := 6) rfl ?_ ?_ rfl rfl ?_ ono) ?_ | refine ac (S.store (i := 7) rfl ?_ ?_ rfl rfl ?_ ono) ?_
 · exact (by first | exact Tryz.s7 | exact Tryz.s8 | exact Tryz.s13 | exact Tryz.s14 | exact Tryz.s18 | exact Tryz.s19 | exact Tryz.s23 | exact Tryz.s31 | exact Tryz.s56 | exact Tryz.s99 | exact Tryz.s300 | exact Tryz.s301 | exact Tryz.s303 | exact Tryz.s310)
 · exact (by intro x e; cases e)
 · exact lbt rfl
 clear S; rintro h ⟨S, mo⟩; clear mo; simp only [List.set_cons_zero, List.set_cons_succ, an, lay, List.take, List.drop, List.nil_append, List.cons_append, List.append_nil, List.length_cons, List.length_nil, Nat.reduceAdd, Nat.add_zero] at S
 simp only [BS]
 replace S := ((S.nilG (k := 3)).nilG (k := 1)).nilG (k := 1)
 generalize hN : 1 + r0 = N at S
 refine bE (fun (i : Nat) ρ h => i ≤ N ∧ ∃ (a : Nat) (vX vY : Value) (X Y : List Int), a ≤ 1 + 2 * i ∧ X.length = i ∧ Y.length = i ∧ (∀ x ∈ X, -2147483648 ≤ x ∧ x ≤ 2147483647) ∧ (∀ x ∈ Y, -2147483648 ≤ x ∧ x ≤ 2147483647) ∧
  St (· = bd) h0 h [(b3, .row [.int .i64 N, vX, vY, .slice none 0 0] 1), (b2, .row [.int .i64 0, .slice none 0 0, .slice none 0 0, .slice none 0 0] 1), (bd, .row [vB, .int .i64 a] 1)] [(vX, 1, ints X), (vY, 1, ints Y), (.slice none 0 0, 3, [])] ∧
  ρ 0 = ptrTo bd ∧ ρ 2 = ptrTo b2 ∧ ρ 3 = ptrTo b3 ∧ ρ 4 = .int .i64 i) (fun i => N - i) ?_ 0 _ _ ?_
 · clear S
   intro i ih ρ h ⟨hi, a, vX, vY, X, Y, ha, lX, lY, cX, cY, S, r0, r2, r3, r4⟩
   by_cases hlt : i < N
   · simp only [BS, LB, Nat.reduceLT, Nat.reduceEqDiff, Tryz.FFt845, r3, r4, aF, hlt, S.ld (b := b3) (o := 0) (by repeat constructor) rfl]
     refine aI (aR rfl) (q := 32) (ps := [(1, 3)]) (by kernel_rfl) ?_
     simp only [BS, LB, cls, Nat.reduceLT, Nat.reduceEqDiff, Nat.reduceAdd, Nat.reducePow, Nat.reduceDiv, Nat.reduceMod, Nat.reduceLeDiff, Tryz.FFt845, r0, r3, S.ld (b := b3) (o := 1) (by repeat constructor) rfl]
     refine dO (en (n := 9) (a := a) S.ok (S.row m2) (hd.mo S.fr (by omega)) (by omega) (by omega)) ?_
     rintro v h ⟨f, r1, a1, rfl, hr1, ha1, R⟩
     have hl := S.leaves (c := b3) m0 f (by omega)
     replace S := S.call1 (i := 2) rfl f (o' := .row _ _) R
     simp only [List.set_cons_zero, List.set_cons_succ] at S
     have w9 : au .i64 ((r1 : Int) - 3) = (r1 : Int) - 3 := by rw [wrap64] <;> omega
     simp only [BS, LB, cls, Nat.reduceLT, Nat.reduceEqDiff, Nat.reduceAdd, Nat.reducePow, Nat.reduceDiv, Nat.reduceMod, Nat.reduceLeDiff, w9]
     refine eF (bT (by first | exact Tryz.u22 | exact Tryz.u25 | exact Tryz.u29) (by first | exact Tryz.e2E | exact Tryz.e5E | exact Tryz.e56E) (by decide) (by first | rfl | exact fillE )) S ?_; clear S; intro h bs S n_bs e_bs; simp only [aY, bD, an, List.cons_append, List.nil_append, List.append_nil, List.set_cons_zero, List.set_cons_succ, Nat.reduceMul, Nat.reduceAdd, Nat.zero_mul, Nat.zero_add, Nat.mul_one, Nat.one_mul] at S
     simp only [BS, LB, cls, Nat.reduceLT, Nat.reduceEqDiff, Nat.reduceAdd, Nat.reducePow, Nat.reduceDiv, Nat.reduceMod, Nat.reduceLeDiff]
     refine dn_v (S.grow (j := 0) (m := 1) (new := ints [(r1 : Int) - 3]) rfl Tryz.u25 Tryz.e2E (by decide) Tryz.n25 (by simp only [aH]; rw [S.lds (b := bs) (o := 0) (n := 1 * 1) m0 (lbt rfl)]; rfl) rfl (by decide) rfl (by rw [cb, cb]; simp; omega)) ?_
     clear S
     rintro h vX' S
     simp only [List.set_cons_zero] at S
     replace S := S.drop1
     rw [← jt] at S
     have fX : Fl vX' := (S.gown _ m0).1.fl
     simp only [BS, LB, cls, Nat.reduceLT, Nat.reduceEqDiff, Nat.reduceAdd, Nat.reducePow, Nat.reduceDiv, Nat.reduceMod, Nat.reduceLeDiff, Tryz.FFt845, r3]
     first | refine aO (ab S (i := 0) rfl ?_ ?_ ?_ ono) ?_ | refine aO (ab S (i := 1) rfl ?_ ?_ ?_ ono) ?_ | refine aO (ab S (i := 2) rfl ?_ ?_ ?_ ono) ?_ | refine aO (ab S (i := 3) rfl ?_ ?_ ?_ ono) ?_ | refine aO (ab S (i := 4) rfl ?_ ?_ ?_ ono) ?_ | refine aO (ab S (i := 5) rfl ?_ ?_ ?_ ono) ?_ | refine aO (ab S (i := 6) rfl ?_ ?_ ?_ ono) ?_ | refine aO (ab S (i := 7) rfl ?_ ?_ ?_ ono) ?_
     · exact (by simp only [Tryz.FFt845])
     · exact (by first | exact aM | exact aw | exact aX | exact aT | exact bo | exact aP | exact aU | exact aK | exact aV | exact bz | assumption)
     · exact Nat.lt_of_succ_le (lbt rfl)
     clear S; rintro h ⟨S, mo⟩; clear mo; simp only [List.set_cons_zero, List.set_cons_succ, an, lay, List.take, List.drop, List.nil_append, List.cons_append, List.append_nil, List.length_cons, List.length_nil, Nat.reduceAdd, Nat.add_zero] at S
     simp only [BS, Nat.reduceAdd]
     refine ⟨by simp only [bL, bR, bC, bU, bF, ne_eq, not_false_eq_true, bW, cB, bJ, bG, cK, dk, bH, Nat.reduceLT, Nat.reduceEqDiff, reduceIte, Bool.and_true, r3, ae, aS hl], ?_⟩
     refine aI (aR rfl) (q := 16) (ps := [(1, 3)]) (by kernel_rfl) ?_
     simp only [BS, LB, cls, Nat.reduceLT, Nat.reduceEqDiff, Nat.reduceAdd, Nat.reducePow, Nat.reduceDiv, Nat.reduceMod, Nat.reduceLeDiff, Tryz.FFt845, r0, r3, S.ld (b := b3) (o := 2) (by repeat constructor) rfl]
     clear f hl R
     refine dO (en (n := 7) (a := a1) S.ok (S.row m2) (hd.mo S.fr (by omega)) (by omega) (by omega)) ?_
     rintro v h ⟨f, r5, a2, rfl, hr5, ha2, R⟩
     have hl := S.leaves (c := b3) m0 f (by omega)
     replace S := S.call1 (i := 2) rfl f (o' := .row _ _) R
     simp only [List.set_cons_zero, List.set_cons_succ] at S
     simp only [BS, LB, cls, Nat.reduceLT, Nat.reduceEqDiff, Nat.reduceAdd, Nat.reducePow, Nat.reduceDiv, Nat.reduceMod, Nat.reduceLeDiff]
     refine eF (bT (by first | exact Tryz.u22 | exact Tryz.u25 | exact Tryz.u29) (by first | exact Tryz.e2E | exact Tryz.e5E | exact Tryz.e56E) (by decide) (by first | rfl | exact fillE )) S ?_; clear S; intro h bs S n_bs e_bs; simp only [aY, bD, an, List.cons_append, List.nil_append, List.append_nil, List.set_cons_zero, List.set_cons_succ, Nat.reduceMul, Nat.reduceAdd, Nat.zero_mul, Nat.zero_add, Nat.mul_one, Nat.one_mul] at S
     simp only [BS, LB, cls, Nat.reduceLT, Nat.reduceEqDiff, Nat.reduceAdd, Nat.reducePow, Nat.reduceDiv, Nat.reduceMod, Nat.reduceLeDiff]
     refine dn_v (S.grow (j := 1) (m := 1) (new := ints [(r5 : Int)]) rfl Tryz.u25 Tryz.e2E (by decide) Tryz.n25 (by simp only [aH]; rw [S.lds (b := bs) (o := 0) (n := 1 * 1) m0 (lbt rfl)]; rfl) rfl (by decide) rfl (by rw [cb, cb]; simp; omega)) ?_
     clear S
     rintro h vY' S
     simp only [List.set_cons_zero, List.set_cons_succ] at S
     replace S := S.drop1
     rw [← jt] at S
     have fY : Fl vY' := (S.gown _ m1).1.fl
     simp only [BS, LB, cls, Nat.reduceLT, Nat.reduceEqDiff, Nat.reduceAdd, Nat.reducePow, Nat.reduceDiv, Nat.reduceMod, Nat.reduceLeDiff, Tryz.FFt845, r3]
     first | refine aO (ab S (i := 0) rfl ?_ ?_ ?_ ono) ?_ | refine aO (ab S (i := 1) rfl ?_ ?_ ?_ ono) ?_ | refine aO (ab S (i := 2) rfl ?_ ?_ ?_ ono) ?_ | refine aO (ab S (i := 3) rfl ?_ ?_ ?_ ono) ?_ | refine aO (ab S (i := 4) rfl ?_ ?_ ?_ ono) ?_ | refine aO (ab S (i := 5) rfl ?_ ?_ ?_ ono) ?_ | refine aO (ab S (i := 6) rfl ?_ ?_ ?_ ono) ?_ | refine aO (ab S (i := 7) rfl ?_ ?_ ?_ ono) ?_
     · exact (by simp only [Tryz.FFt845])
     · exact (by first | exact aM | exact aw | exact aX | exact aT | exact bo | exact aP | exact aU | exact aK | exact aV | exact bz | assumption)
     · exact Nat.lt_of_succ_le (lbt rfl)
     clear S; rintro h ⟨S, mo⟩; clear mo; simp only [List.set_cons_zero, List.set_cons_succ, an, lay, List.take, List.drop, List.nil_append, List.cons_append, List.append_nil, List.length_cons, List.length_nil, Nat.reduceAdd, Nat.add_zero] at S
     simp only [BS, LB, Nat.reduceLT, Nat.reduceEqDiff, Nat.reduceAdd, r4]
     refine ⟨by simp only [bL, bR, bC, bU, bF, ne_eq, not_false_eq_true, bW, cB, bJ, bG, cK, dk, bH, Nat.reduceLT, Nat.reduceEqDiff, reduceIte, Bool.and_true, r3, ae, aS hl], ?_⟩
     have w : au .i64 ((i : Int) + 1) = ((i + 1 : Nat) : Int) := by rw [wrap64] <;> omega
     simp only [w]
     exact ih (i + 1) _ _ (by omega) ⟨by omega, a2, vX', vY', _, _, by omega, by simp [lX], by simp [lY],
      fun x hx => (List.mem_append.1 hx).elim (cX x) (fun h => by simp at h; omega), fun x hx => (List.mem_append.1 hx).elim (cY x) (fun h => by simp at h; omega), S, by simp [aa, r0, ae], by simp [aa, r2, ae], by simp [aa, r3, ae], by simp [aa]⟩
   · have hiN : i = N := by omega
     subst hiN
     simp only [BS, LB, Nat.reduceLT, Nat.reduceEqDiff, Tryz.FFt845, r0, r3, r4, aF, hlt, S.ld (b := b3) (o := 0) (by repeat constructor) rfl]
     refine step_ret (en (n := 9) (a := a) S.ok (S.row m2) (hd.mo S.fr (by omega)) (by omega) (by omega)) ?_
     rintro v h ⟨f, r5, a1, rfl, hr5, ha1, R⟩
     replace S := S.call1 (i := 2) rfl f (o' := .row _ _) R
     simp only [List.set_cons_zero, List.set_cons_succ] at S
     simp only [BS, LB, Nat.reduceLT, Nat.reduceEqDiff]
     refine uj (fun ρ h => ∃ (X Y : List Int), X.length = i ∧ Y.length = i ∧ (∀ x ∈ X, -2147483648 ≤ x ∧ x ≤ 2147483647) ∧ (∀ x ∈ Y, -2147483648 ≤ x ∧ x ≤ 2147483647) ∧
      St (· = bd) h0 h [(b3, .row [.int .i64 i, vX, vY, .slice none 0 0] 1), (b2, .row [.int .i64 0, .slice none 0 0, .slice none 0 0, .slice none 0 0] 1), (bd, .row [vB, .int .i64 a1] 1)] [(vX, 1, ints X), (vY, 1, ints Y), (.slice none 0 0, 3, [])] ∧
      ρ 0 = ptrTo bd ∧ ρ 2 = ptrTo b2 ∧ ρ 3 = ptrTo b3) ?_ ?_ ?_
     · intro _
       obtain ⟨bX, ix, stX⟩ := S.gset (E := Tryz.abEnv) (t := 2) (j := 0) (i := 0) (kd := .i64) rfl (by rw [cb]; omega) Tryz.s2
       have ix' : idxS (some 1) vX (.int .i64 0) = _ := ix
       simp only [BS, LB, Nat.reduceLT, Nat.reduceEqDiff, Tryz.FFt845, r3, ix', S.ld (b := b3) (o := 1) (by repeat constructor) rfl]
       refine ac (stX _ aM) ?_
       clear S stX; intro h S
       simp only [List.set_cons_zero] at S
       obtain ⟨bY, iy, stY⟩ := S.gset (E := Tryz.abEnv) (t := 2) (j := 1) (i := i - 1) (kd := .i64) rfl (by rw [cb]; omega) Tryz.s2
       have w1 : au .i64 ((i : Int) - 1) = ((i - 1 : Nat) : Int) := by rw [wrap64] <;> omega
       simp only [BS, LB, Nat.reduceLT, Nat.reduceEqDiff, Tryz.FFt845, r3, w1, iy, S.ld (b := b3) (o := 0) (by repeat constructor) rfl, S.ld (b := b3) (o := 2) (by repeat constructor) rfl]
       refine ac (stY _ aM) ?_
       clear S stY; intro h S
       simp only [List.set_cons_zero, List.set_cons_succ] at S
       simp only [BS]
       have eset : ∀ (l : List Int) (j : Nat) (z : Int), (ints l).set j (.int .i64 z) = ints (l.set j z) := by
        intro l
        induction l with
        | nil => intro j z; rfl
        | cons x l ih =>
          intro j z
          cases j with
          | zero => rfl
          | succ j => show _ :: _ = _ :: _; exact congrArg _ (ih j z)
       rw [eset, eset] at S
       refine gV ⟨_, _, by simp [lX], by simp [lY], fun x hx => ?_, fun x hx => ?_, S, by simp [aa, r0, ae], by simp [aa, r2, ae], by simp [aa, r3, ae]⟩
       · rcases iP hx with rfl | ⟨j, _, hx⟩
         · omega
         · exact cX x (List.mem_of_getElem? hx)
       · rcases iP hx with rfl | ⟨j, _, hx⟩
         · omega
         · exact cY x (List.mem_of_getElem? hx)
     · intro _
       simp only [BS]
       exact gV ⟨X, Y, lX, lY, cX, cY, S, by simp [aa, r0, ae], by simp [aa, r2, ae], by simp [aa, r3, ae]⟩
     · clear S r0 r2 r3 r4 lX lY cX cY X Y f R
       rintro ρ h ⟨X, Y, lX, lY, cX, cY, S, r0, r2, r3⟩
       have w3 : au .i64 (3 * (i : Int)) = ((3 * i : Nat) : Int) := by rw [wrap64] <;> omega
       have w4 : au .i64 (((3 * i : Nat) : Int) + 1) = ((3 * i + 1 : Nat) : Int) := by rw [wrap64] <;> omega
       simp only [BS, LB, Nat.reduceLT, Nat.reduceEqDiff, Tryz.FFt845, r0, r3, w3, w4, S.ld (b := b3) (o := 0) (by repeat constructor) rfl]
       refine step_ret (en (n := 3 * i + 1) (a := a1) S.ok (S.row m2) (hd.mo S.fr (by omega)) (by omega) (by omega)) ?_
       rintro v h ⟨f, many, a2, rfl, hmany, ha2, R⟩
       replace S := S.call1 (i := 2) rfl f (o' := .row _ _) R
       simp only [List.set_cons_zero, List.set_cons_succ] at S
       simp only [BS, LB, Nat.reduceLT, Nat.reduceEqDiff, r0]
       refine step_ret (en (n := 3) (a := a2) S.ok (S.row m2) (hd.mo S.fr (by omega)) (by omega) (by omega)) ?_
       rintro v h ⟨f, rr, a3, rfl, hrr, ha3, R⟩
       replace S := S.call1 (i := 2) rfl f (o' := .row _ _) R
       simp only [List.set_cons_zero, List.set_cons_succ] at S
       simp only [BS, LB, Nat.reduceLT, Nat.reduceEqDiff]
       generalize decide ((0 : Int) < (rr : Int)) = ring
       refine lW (fun ρ h => ∃ (a : Nat) (vA : Value) (A : List Arc), a ≤ a3 + 2 * i ∧ A.length ≤ i ∧ (∀ x ∈ A, x.s < i ∧ x.t < i ∧ x.w ≤ 2147483647) ∧
        St (· = bd) h0 h [(b3, .row [.int .i64 i, vX, vY, vA] 1), (b2, .row [.int .i64 0, .slice none 0 0, .slice none 0 0, .slice none 0 0] 1), (bd, .row [vB, .int .i64 a] 1)] [(vX, 1, ints X), (vY, 1, ints Y), (vA, 3, A.flatMap cP)] ∧
        ρ 0 = ptrTo bd ∧ ρ 2 = ptrTo b2 ∧ ρ 3 = ptrTo b3 ∧ ρ 5 = .int .i64 many)
        (fun (j : Nat) ρ h => j ≤ i ∧ ∃ (a : Nat) (vA : Value) (A : List Arc), a ≤ a3 + 2 * j ∧ A.length ≤ j ∧ (∀ x ∈ A, x.s < i ∧ x.t < i ∧ x.w ≤ 2147483647) ∧
        St (· = bd) h0 h [(b3, .row [.int .i64 i, vX, vY, vA] 1), (b2, .row [.int .i64 0, .slice none 0 0, .slice none 0 0, .slice none 0 0] 1), (bd, .row [vB, .int .i64 a] 1)] [(vX, 1, ints X), (vY, 1, ints Y), (vA, 3, A.flatMap cP)] ∧
        ρ 0 = ptrTo bd ∧ ρ 2 = ptrTo b2 ∧ ρ 3 = ptrTo b3 ∧ ρ 5 = .int .i64 many ∧ ρ 6 = .bool ring ∧ ρ 7 = .int .i64 j) (fun j => i - j) ?_ ?_ 0 ⟨by omega, a3, _, [], by omega, by simp, by simp, S, by simp [aa, r0, ae], by simp [aa, r2, ae], by simp [aa, r3, ae], by simp [aa], by simp [aa], by simp [aa]⟩
       · clear S r0 r2 r3 f R ih
         intro j ih ρ h ⟨hj, a, vA, A, ha, lA, cA, S, r0, r2, r3, r5, r6, r7⟩
         have flen : (A.flatMap cP).length = A.length * 3 := aZ eY A
         by_cases hlt : j < i ∧ ring = true
         · obtain ⟨hlt, hring⟩ := hlt
           subst hring
           have w1 : au .i64 ((j : Int) + 1) = ((j + 1 : Nat) : Int) := by rw [wrap64] <;> omega
           have ci : (i : Int) ≠ 0 := by omega
           have tm : ((j + 1 : Nat) : Int).tmod (i : Int) = (((j + 1) % i : Nat) : Int) := by rw [Int.tmod_eq_emod_of_nonneg (by omega)]; exact (Int.natCast_emod _ _).symm
           simp only [BS, LB, Nat.reduceLT, Nat.reduceEqDiff, Tryz.FFt845, r3, r6, r7, aF, hlt, S.ld (b := b3) (o := 0) (by repeat constructor) rfl]
           refine aI (aR rfl) (q := 2048) (ps := [(6, 9), (1, 9)]) (by kernel_rfl) ?_
           simp only [BS, LB, cls, Nat.reduceLT, Nat.reduceEqDiff, Nat.reduceAdd, Nat.reducePow, Nat.reduceDiv, Nat.reduceMod, Nat.reduceLeDiff, Tryz.FFt845, r0, r3, r7, w1, lO ci, tm, S.ld (b := b3) (o := 0) (by repeat constructor) rfl, S.ld (b := b3) (o := 3) (by repeat constructor) rfl]
           refine dO (qJ (a := a) S.ok (S.row m2) (hd.mo S.fr (by omega)) (by omega)) ?_
           rintro v h ⟨f, wt, a4, rfl, hwt, ha4, R⟩
           have hl := S.leaves (c := b3) m0 f (by omega)
           replace S := S.call1 (i := 2) rfl f (o' := .row _ _) R
           simp only [List.set_cons_zero, List.set_cons_succ] at S
           simp only [BS, LB, cls, Nat.reduceLT, Nat.reduceEqDiff, Nat.reduceAdd, Nat.reducePow, Nat.reduceDiv, Nat.reduceMod, Nat.reduceLeDiff, Tryz.FFt845]
           refine eF (bT (by first | exact Tryz.u22 | exact Tryz.u25 | exact Tryz.u29) (by first | exact Tryz.e2E | exact Tryz.e5E | exact Tryz.e56E) (by decide) (by first | rfl | exact fillE )) S ?_; clear S; intro h bs S n_bs e_bs; simp only [aY, bD, an, List.cons_append, List.nil_append, List.append_nil, List.set_cons_zero, List.set_cons_succ, Nat.reduceMul, Nat.reduceAdd, Nat.zero_mul, Nat.zero_add, Nat.mul_one, Nat.one_mul] at S
           simp only [BS, LB, cls, Nat.reduceLT, Nat.reduceEqDiff, Nat.reduceAdd, Nat.reducePow, Nat.reduceDiv, Nat.reduceMod, Nat.reduceLeDiff]
           refine dn_v (S.grow (j := 2) (m := 1) (new := cP ⟨j, (j + 1) % i, wt⟩) rfl Tryz.u29 Tryz.e56E (by decide) Tryz.n29 (by simp only [aH]; rw [S.lds (b := bs) (o := 0) (n := 1 * 3) m0 (lbt rfl)]; rfl) rfl (by decide) rfl (by rw [flen, eY]; omega)) ?_
           clear S
           rintro h vA' S
           simp only [List.set_cons_zero, List.set_cons_succ] at S
           replace S := S.drop1
           have fA : Fl vA' := (S.gown _ m2).1.fl
           simp only [BS, LB, cls, Nat.reduceLT, Nat.reduceEqDiff, Nat.reduceAdd, Nat.reducePow, Nat.reduceDiv, Nat.reduceMod, Nat.reduceLeDiff, Tryz.FFt845, r3]
           first | refine aO (ab S (i := 0) rfl ?_ ?_ ?_ ono) ?_ | refine aO (ab S (i := 1) rfl ?_ ?_ ?_ ono) ?_ | refine aO (ab S (i := 2) rfl ?_ ?_ ?_ ono) ?_ | refine aO (ab S (i := 3) rfl ?_ ?_ ?_ ono) ?_ | refine aO (ab S (i := 4) rfl ?_ ?_ ?_ ono) ?_ | refine aO (ab S (i := 5) rfl ?_ ?_ ?_ ono) ?_ | refine aO (ab S (i := 6) rfl ?_ ?_ ?_ ono) ?_ | refine aO (ab S (i := 7) rfl ?_ ?_ ?_ ono) ?_
           · exact (by simp only [Tryz.FFt845])
           · exact (by first | exact aM | exact aw | exact aX | exact aT | exact bo | exact aP | exact aU | exact aK | exact aV | exact bz | assumption)
           · exact Nat.lt_of_succ_le (lbt rfl)
           clear S; rintro h ⟨S, mo⟩; clear mo; simp only [List.set_cons_zero, List.set_cons_succ, an, lay, List.take, List.drop, List.nil_append, List.cons_append, List.append_nil, List.length_cons, List.length_nil, Nat.reduceAdd, Nat.add_zero] at S
           simp only [BS, LB, Nat.reduceLT, Nat.reduceEqDiff, Nat.reduceAdd, r7]
           refine ⟨by simp only [bL, bR, bC, bU, bF, ne_eq, not_false_eq_true, bW, cB, bJ, bG, cK, dk, bH, Nat.reduceLT, Nat.reduceEqDiff, reduceIte, Bool.and_true, r3, ae, aS hl], ?_⟩
           simp only [w1]
           have hmod : (j + 1) % i < i := Nat.mod_lt _ (by omega)
           exact ih (j + 1) _ _ (by omega) ⟨by omega, a4, vA', A ++ [⟨j, (j + 1) % i, wt⟩], by omega, by simp; omega,
            fun x hx => (List.mem_append.1 hx).elim (cA x) (fun h => by simp at h; subst h; exact ⟨hlt, hmod, hwt⟩), by rw [List.flatMap_append]; simpa using S, by simp [aa, r0, ae], by simp [aa, r2, ae], by simp [aa, r3, ae], by simp [aa, r5], by simp [aa, r6], by simp [aa]⟩
         · by_cases hji : j < i
           · have hring : ring = false := by cases ring with
              | false => rfl
              | true => exact absurd ⟨hji, rfl⟩ hlt
             subst hring
             simp only [BS, LB, Nat.reduceLT, Nat.reduceEqDiff, Tryz.FFt845, r3, r6, r7, aF, hji, S.ld (b := b3) (o := 0) (by repeat constructor) rfl]
             exact gV ⟨a, vA, A, by omega, by omega, cA, S, by simp [aa, r0, ae], by simp [aa, r2, ae], by simp [aa, r3, ae], by simp [aa, r5]⟩
           · simp only [BS, LB, Nat.reduceLT, Nat.reduceEqDiff, Tryz.FFt845, r3, r7, aF, hji, S.ld (b := b3) (o := 0) (by repeat constructor) rfl]
             exact gV ⟨a, vA, A, by omega, by omega, cA, S, by simp [aa, r0, ae], by simp [aa, r2, ae], by simp [aa, r3, ae], by simp [aa, r5]⟩
       · clear S r0 r2 r3 f R ih
         rintro ρ h ⟨a, vA, A, ha, lA, cA, S, r0, r2, r3, r5⟩
         simp only [BS]
         refine lW (fun ρ h => ∃ (a : Nat) (vA : Value) (A : List Arc), A.length ≤ 100 ∧ (∀ x ∈ A, x.s < i ∧ x.t < i ∧ x.w ≤ 2147483647) ∧
          St (· = bd) h0 h [(b3, .row [.int .i64 i, vX, vY, vA] 1), (b2, .row [.int .i64 0, .slice none 0 0, .slice none 0 0, .slice none 0 0] 1), (bd, .row [vB, .int .i64 a] 1)] [(vX, 1, ints X), (vY, 1, ints Y), (vA, 3, A.flatMap cP)] ∧
          ρ 0 = ptrTo bd ∧ ρ 2 = ptrTo b2 ∧ ρ 3 = ptrTo b3)
          (fun (k : Nat) ρ h => k ≤ many ∧ ∃ (a : Nat) (vA : Value) (A : List Arc), a ≤ a3 + 2 * i + 6 * k ∧ A.length ≤ i + 2 * k ∧ (∀ x ∈ A, x.s < i ∧ x.t < i ∧ x.w ≤ 2147483647) ∧
          St (· = bd) h0 h [(b3, .row [.int .i64 i, vX, vY, vA] 1), (b2, .row [.int .i64 0, .slice none 0 0, .slice none 0 0, .slice none 0 0] 1), (bd, .row [vB, .int .i64 a] 1)] [(vX, 1, ints X), (vY, 1, ints Y), (vA, 3, A.flatMap cP)] ∧
          ρ 0 = ptrTo bd ∧ ρ 2 = ptrTo b2 ∧ ρ 3 = ptrTo b3 ∧ ρ 5 = .int .i64 many ∧ ρ 8 = .int .i64 k) (fun k => many - k) ?_ ?_ 0 ⟨by omega, a, vA, A, by omega, by omega, cA, S, by simp [aa, r0, ae], by simp [aa, r2, ae], by simp [aa, r3, ae], by simp [aa, r5], by simp [aa]⟩
         · clear S r0 r2 r3 r5 ha lA cA a vA A
           intro k ih ρ h ⟨hk, a, vA, A, ha, lA, cA, S, r0, r2, r3, r5, r8⟩
           have flen : (A.flatMap cP).length = A.length * 3 := aZ eY A
           by_cases hlt : k < many
           · simp only [BS, LB, Nat.reduceLT, Nat.reduceEqDiff, r5, r8, aF, hlt]
             refine aI (qz (ord := [11, 0, 1, 2, 3, 4, 5, 6, 7, 8, 9, 10, 12]) rfl rfl (by simp only [eQ, reix, eV, List.getElem?_cons_zero, List.getElem?_cons_succ, List.map_toArray, List.map_cons, List.map_nil, Nat.reduceBEq, cond_true, cond_false]; exact rfl)) (q := 1) (ps := [(0, 10), (0, 8), (4, 7), (0, 4)]) (by kernel_rfl) ?_
             simp only [BS, LB, cls, Nat.reducePow, Nat.reduceDiv, Nat.reduceMod, Nat.reduceLeDiff, Tryz.FFt845]
             refine eF aJ S ?_; clear S; intro h b9 S n_b9 e_b9
             simp only [BS, LB, cls, Nat.reduceLT, Nat.reduceEqDiff, Nat.reduceAdd, Nat.reducePow, Nat.reduceDiv, Nat.reduceMod, Nat.reduceLeDiff, Tryz.FFt845, r0, r3, S.ld (b := b3) (o := 0) (by repeat constructor) rfl]
             refine dO (en (n := i) (a := a) S.ok (S.row m3) (hd.mo S.fr (by omega)) (by omega) (by omega)) ?_
             rintro v h ⟨f, s1, a4, rfl, hs1, ha4, R⟩
             have hl0 := S.leaves (c := b9) m0 f (by omega)
             have hl4 := S.leaves (c := b3) m1 f (by omega)
             replace S := S.call1 (i := 3) rfl f (o' := .row _ _) R
             simp only [List.set_cons_zero, List.set_cons_succ] at S
             simp only [BS, LB, cls, Nat.reduceLT, Nat.reduceEqDiff, Nat.reduceAdd, Nat.reducePow, Nat.reduceDiv, Nat.reduceMod, Nat.reduceLeDiff, Tryz.FFt845, r0, r3, S.ld (b := b3) (o := 0) (by repeat constructor) rfl]
             refine dO (en (n := i) (a := a4) S.ok (S.row m3) (hd.mo S.fr (by omega)) (by omega) (by omega)) ?_
             rintro v h ⟨f, s2, a5, rfl, hs2, ha5, R⟩
             have hl1 := S.leaves (c := b9) m0 f (by omega)
             have hl2 := S.leaves (c := b3) m1 f (by omega)
             replace S := S.call1 (i := 3) rfl f (o' := .row _ _) R
             simp only [List.set_cons_zero, List.set_cons_succ] at S
             simp only [BS, LB, cls, Nat.reduceLT, Nat.reduceEqDiff, Nat.reduceAdd, Nat.reducePow, Nat.reduceDiv, Nat.reduceMod, Nat.reduceLeDiff, r0]
             refine dO (qJ (a := a5) S.ok (S.row m3) (hd.mo S.fr (by omega)) (by omega)) ?_
             rintro v h ⟨f, wt, a6, rfl, hwt, ha6, R⟩
             have hl3 := S.leaves (c := b9) m0 f (by omega)
             replace S := S.call1 (i := 3) rfl f (o' := .row _ _) R
             simp only [List.set_cons_zero, List.set_cons_succ] at S
             simp only [BS, LB, cls, Nat.reduceLT, Nat.reduceEqDiff, Nat.reduceAdd, Nat.reducePow, Nat.reduceDiv, Nat.reduceMod, Nat.reduceLeDiff, Tryz.FFt845]
             first | refine aO (S.store (i := 0) rfl ?_ ?_ rfl rfl ?_ ono) ?_ | refine aO (S.store (i := 1) rfl ?_ ?_ rfl rfl ?_ ono) ?_ | refine aO (S.store (i := 2) rfl ?_ ?_ rfl rfl ?_ ono) ?_ | refine aO (S.store (i := 3) rfl ?_ ?_ rfl rfl ?_ ono) ?_ | refine aO (S.store (i := 4) rfl ?_ ?_ rfl rfl ?_ ono) ?_ | refine aO (S.store (i := 5) rfl ?_ ?_ rfl rfl ?_ ono) ?_ | refine aO (S.store (i := 6) rfl ?_ ?_ rfl rfl ?_ ono) ?_ | refine aO (S.store (i := 7) rfl ?_ ?_ rfl rfl ?_ ono) ?_
             · exact (by first | exact Tryz.s7 | exact Tryz.s8 | exact Tryz.s13 | exact Tryz.s14 | exact Tryz.s18 | exact Tryz.s19 | exact Tryz.s23 | exact Tryz.s31 | exact Tryz.s56 | exact Tryz.s99 | exact Tryz.s300 | exact Tryz.s301 | exact Tryz.s303 | exact Tryz.s310)
             · exact (by intro x e; cases e)
             · exact lbt rfl
             clear S; rintro h ⟨S, mo⟩; clear mo; simp only [List.set_cons_zero, List.set_cons_succ, an, lay, List.take, List.drop, List.nil_append, List.cons_append, List.append_nil, List.length_cons, List.length_nil, Nat.reduceAdd, Nat.add_zero] at S
             simp only [BS, LB, Nat.reduceLT, Nat.reduceEqDiff, Nat.reduceAdd, Tryz.FFt845, r3]
             refine ⟨by simp only [bL, bR, bC, bU, bF, ne_eq, not_false_eq_true, bW, cB, bJ, bG, cK, dk, bH, Nat.reduceLT, Nat.reduceEqDiff, reduceIte, Bool.and_true, r3, ae, ← e_b9, aS hl0, aS hl1, aS hl2, aS hl3, bn hl4], ?_⟩
             simp only [BS, LB, Nat.reduceLT, Nat.reduceEqDiff, Tryz.FFt845, S.ld (b := b3) (o := 3) (by repeat constructor) rfl, S.lds (b := b9) (o := 0) (n := 3) (by repeat constructor) (lbt rfl)]
             refine ao (bT (by first | exact Tryz.u22 | exact Tryz.u25 | exact Tryz.u29) (by first | exact Tryz.e2E | exact Tryz.e5E | exact Tryz.e56E) (by decide) (by first | rfl | exact fillE )) S ?_; clear S; intro h bs S n_bs; simp only [aY, bD, an, List.cons_append, List.nil_append, List.append_nil, List.set_cons_zero, List.set_cons_succ, Nat.reduceMul, Nat.reduceAdd, Nat.zero_mul, Nat.zero_add, Nat.mul_one, Nat.one_mul] at S
             simp only [BS, LB, Nat.reduceLT, Nat.reduceEqDiff]
             refine dt (S.grow (j := 2) (m := 1) (new := cP ⟨s1, s2, wt⟩) rfl Tryz.u29 Tryz.e56E (by decide) Tryz.n29 (by simp only [aH]; rw [S.lds (b := bs) (o := 0) (n := 1 * 3) m0 (lbt rfl)]; rfl) rfl (by decide) rfl (by rw [flen, eY]; omega)) ?_
             clear S
             rintro h vA' S
             simp only [List.set_cons_zero, List.set_cons_succ] at S
             replace S := S.drop1
             have fA : Fl vA' := (S.gown _ m2).1.fl
             simp only [BS, LB, Nat.reduceLT, Nat.reduceEqDiff, Tryz.FFt845, r3]
             first | refine ac (ab S (i := 0) rfl ?_ ?_ ?_ ono) ?_ | refine ac (ab S (i := 1) rfl ?_ ?_ ?_ ono) ?_ | refine ac (ab S (i := 2) rfl ?_ ?_ ?_ ono) ?_ | refine ac (ab S (i := 3) rfl ?_ ?_ ?_ ono) ?_ | refine ac (ab S (i := 4) rfl ?_ ?_ ?_ ono) ?_ | refine ac (ab S (i := 5) rfl ?_ ?_ ?_ ono) ?_ | refine ac (ab S (i := 6) rfl ?_ ?_ ?_ ono) ?_ | refine ac (ab S (i := 7) rfl ?_ ?_ ?_ ono) ?_
             · exact (by simp only [Tryz.FFt845])
             · exact (by first | exact aM | exact aw | exact aX | exact aT | exact bo | exact aP | exact aU | exact aK | exact aV | exact bz | assumption)
             · exact Nat.lt_of_succ_le (lbt rfl)
             clear S; rintro h ⟨S, mo⟩; clear mo; simp only [List.set_cons_zero, List.set_cons_succ, an, lay, List.take, List.drop, List.nil_append, List.cons_append, List.append_nil, List.length_cons, List.length_nil, Nat.reduceAdd, Nat.add_zero] at S
             simp only [BS, LB, Nat.reduceLT, Nat.reduceEqDiff, r0]
             refine step_ret (en (n := 4) (a := a6) S.ok (S.row m3) (hd.mo S.fr (by omega)) (by omega) (by omega)) ?_
             rintro v h ⟨f, r9, a7, rfl, hr9, ha7, R⟩
             replace S := S.call1 (i := 3) rfl f (o' := .row _ _) R
             simp only [List.set_cons_zero, List.set_cons_succ] at S
             have w8 : au .i64 ((k : Int) + 1) = ((k + 1 : Nat) : Int) := by rw [wrap64] <;> omega
             have flen' : (A.flatMap cP ++ cP ⟨s1, s2, wt⟩).length = A.length * 3 + 3 := by rw [List.length_append, flen, eY]
             have cA' : ∀ x ∈ A ++ [(⟨s1, s2, wt⟩ : Arc)], x.s < i ∧ x.t < i ∧ x.w ≤ 2147483647 := fun x hx => (List.mem_append.1 hx).elim (cA x) (fun h => by simp at h; subst h; exact ⟨hs1, hs2, hwt⟩)
             by_cases hz : (r9 : Int) = 0
             · simp only [BS, LB, Nat.reduceLT, Nat.reduceEqDiff, Nat.reduceAdd, Tryz.FFt845, r3, hz, S.ld (b := b3) (o := 3) (by repeat constructor) rfl, S.ld (b := b9) (o := 0) (by repeat constructor) rfl, S.ld (b := b9) (o := 1) (by repeat constructor) rfl, S.ld (b := b9) (o := 2) (by repeat constructor) rfl]
               refine ao (bT (by first | exact Tryz.u22 | exact Tryz.u25 | exact Tryz.u29) (by first | exact Tryz.e2E | exact Tryz.e5E | exact Tryz.e56E) (by decide) (by first | rfl | exact fillE )) S ?_; clear S; intro h bs S n_bs; simp only [aY, bD, an, List.cons_append, List.nil_append, List.append_nil, List.set_cons_zero, List.set_cons_succ, Nat.reduceMul, Nat.reduceAdd, Nat.zero_mul, Nat.zero_add, Nat.mul_one, Nat.one_mul] at S
               simp only [BS, LB, Nat.reduceLT, Nat.reduceEqDiff]
               refine dt (S.grow (j := 2) (m := 1) (new := cP ⟨s2, s1, wt⟩) rfl Tryz.u29 Tryz.e56E (by decide) Tryz.n29 (by simp only [aH]; rw [S.lds (b := bs) (o := 0) (n := 1 * 3) m0 (lbt rfl)]; rfl) rfl (by decide) rfl (by rw [flen', eY]; omega)) ?_
               clear S
               rintro h vA2 S
               simp only [List.set_cons_zero, List.set_cons_succ] at S
               replace S := S.drop1
               have fA : Fl vA2 := (S.gown _ m2).1.fl
               simp only [BS, LB, Nat.reduceLT, Nat.reduceEqDiff, Tryz.FFt845, r3]
               first | refine ac (ab S (i := 0) rfl ?_ ?_ ?_ ono) ?_ | refine ac (ab S (i := 1) rfl ?_ ?_ ?_ ono) ?_ | refine ac (ab S (i := 2) rfl ?_ ?_ ?_ ono) ?_ | refine ac (ab S (i := 3) rfl ?_ ?_ ?_ ono) ?_ | refine ac (ab S (i := 4) rfl ?_ ?_ ?_ ono) ?_ | refine ac (ab S (i := 5) rfl ?_ ?_ ?_ ono) ?_ | refine ac (ab S (i := 6) rfl ?_ ?_ ?_ ono) ?_ | refine ac (ab S (i := 7) rfl ?_ ?_ ?_ ono) ?_
               · exact (by simp only [Tryz.FFt845])
               · exact (by first | exact aM | exact aw | exact aX | exact aT | exact bo | exact aP | exact aU | exact aK | exact aV | exact bz | assumption)
               · exact Nat.lt_of_succ_le (lbt rfl)
               clear S; rintro h ⟨S, mo⟩; clear mo; simp only [List.set_cons_zero, List.set_cons_succ, an, lay, List.take, List.drop, List.nil_append, List.cons_append, List.append_nil, List.length_cons, List.length_nil, Nat.reduceAdd, Nat.add_zero] at S
               simp only [BS, LB, Nat.reduceLT, Nat.reduceEqDiff, r8, w8]
               replace S := S.drop1
               exact ih (k + 1) _ _ (by omega) ⟨by omega, a7, vA2, A ++ [⟨s1, s2, wt⟩] ++ [⟨s2, s1, wt⟩], by omega, by simp; omega,
                fun x hx => (List.mem_append.1 hx).elim (cA' x) (fun h => by simp at h; subst h; exact ⟨hs2, hs1, hwt⟩), by rw [List.flatMap_append, List.flatMap_append]; simpa using S, by simp [aa, r0, ae], by simp [aa, r2, ae], by simp [aa, r3, ae], by simp [aa, r5], by simp [aa]⟩
             · simp only [BS, LB, Nat.reduceLT, Nat.reduceEqDiff, r8, hz, w8]
               replace S := S.drop1
               exact ih (k + 1) _ _ (by omega) ⟨by omega, a7, vA', A ++ [⟨s1, s2, wt⟩], by omega, by simp; omega,
                cA', by rw [List.flatMap_append]; simpa using S, by simp [aa, r0, ae], by simp [aa, r2, ae], by simp [aa, r3, ae], by simp [aa, r5], by simp [aa]⟩
           · simp only [BS, LB, Nat.reduceLT, Nat.reduceEqDiff, r5, r8, aF, hlt]
             exact gV ⟨a, vA, A, by omega, cA, S, by simp [aa, r0, ae], by simp [aa, r2, ae], by simp [aa, r3, ae]⟩
         · clear S r0 r2 r3 r5 ha lA cA a vA A
           rintro ρ h ⟨a, vA, A, lA, cA, S, r0, r2, r3⟩
           simp only [BS, LB, Nat.reduceLT, Nat.reduceEqDiff, Tryz.FFt845, r2, r3, S.lds (b := b3) (o := 0) (n := 4) (by repeat constructor) (lbt rfl)]
           have fX : Fl vX := (S.gown _ m0).1.fl
           have fY : Fl vY := (S.gown _ m1).1.fl
           have fA : Fl vA := (S.gown _ m2).1.fl
           refine ac (S.store (i := 1) rfl Tryz.s31 (by intro x e; cases e) rfl (by simp only [an, List.take, List.drop, List.all_cons, List.all_nil, fX.2.1, fY.2.1, fA.2.1, Bool.and_true]; rfl) (lbt rfl) ono) ?_
           clear S; rintro h ⟨S, _⟩
           simp only [List.set_cons_zero, List.set_cons_succ, an, lay, List.take, List.drop, List.nil_append, List.cons_append, List.append_nil, List.length_cons, List.length_nil, Nat.reduceAdd, Nat.add_zero] at S
           simp only [BS, ag]
           refine ⟨_, nw (by decide) (by simp only [bH, r2, ae, Nat.reduceEqDiff, reduceIte]; exact eK Tryz.a31 Tryz.s31 (S.lds (b := b2) (o := 0) (n := 4) m1 (lbt rfl))), ?_⟩
           have blk : ∀ p ∈ [(vX, 1, ints X), (vY, 1, ints Y), (vA, 3, A.flatMap cP)], ∀ c, ax p.1 c → h0.n ≤ c := by
            intro p hp c hc
            obtain ⟨h1, h2⟩ := S.gblk hp hc
            rcases h1 with h1 | h1
            · exact h1
            · exact absurd (by simp [h1]) h2
           refine ⟨S.fr, ⟨i, X, Y, A⟩, vX, vY, vA, rfl, ⟨show 1 ≤ i by omega, show i ≤ 12 by omega, lX, lY, cX, cY, lA, cA⟩, ⟨(S.gown _ m0).1.sl rfl (fun _ => rfl) (by decide), (S.gown _ m1).1.sl rfl (fun _ => rfl) (by decide), (S.gown _ m2).1.sl rfl (fun _ => rfl) (by decide)⟩, ?_⟩
           rintro c (hc | hc | hc)
           · exact blk _ m0 c hc
           · exact blk _ m1 c hc
           · exact blk _ m2 c hc
 · exact ⟨by omega, a0, _, _, [], [], by omega, rfl, rfl, by simp, by simp, S, by simp [aa, cV, ae], by simp [aa, ae], by simp [aa, ae], by simp [aa]⟩
end Go.Ab

end
section
namespace Go.Ab
open Go.Proofs
set_option maxRecDepth 10000
open Tryz in
def Tryz.FFt949 := aj a1 <| aj s1 <| aj z1 <| aj n1 <| aj u2 <| aj a2 <| aj s2 <| aj z2 <| aj i2 <| aj u3 <| aj a3 <| aj s3 <| aj z3 <| aj i3 <| aj u25 <| aj a25 <| aj s25 <| aj z25 <| aj q25 <| aj n25 <| aj u29 <| aj a29 <| aj s29 <| aj z29 <| aj q29 <| aj n29 <| aj a31 <| aj s31 <| aj z31 <| aj i31 <| aj n31 <| aj p31 <| aj ff31 <| aj d31 <| aj a56 <| aj s56 <| aj z56 <| aj i56 <| aj n56 <| aj p56 <| aj ff56 <| d56
theorem aW {h h' : Hp} {b : Nat} (g : Gr h h') (hb : b < h.n) : leaves h h' b = true := nW (g.get b hb)
theorem own_ok {h0 : Hp} (ok : h0.t.Sized h0.n) {γ : Gra} (hγ : Good γ) {vx vy va : Value} (ga : cL h0 vx vy va γ) :
 Ret Tryz.abEnv 49 [gU γ vx vy va] h0 fun v h' => Gr h0 h' ∧ ∃ vx vy va, v = gU γ vx vy va ∧ cL h' vx vy va γ ∧ (∀ c, ax vx c ∨ ax vy c ∨ ax va c → h0.n ≤ c) ∧ WrK h' 3 cP va γ.arcs ∧ ∀ c, ax va c → ¬ ax vx c ∧ ¬ ax vy c := by
 have S := St.init (M := NoM) ok
 have lX := hγ.lX
 have lY := hγ.lY
 have n2 := hγ.n2
 have many := hγ.many
 refine ah (n := 16) (rs := [.cell 2 31]) rfl Tryz.e49 rfl rfl rfl (lbt rfl) ?_
 simp only [BS, Nat.reduceLT, gU]
 refine ao (bS (by intro x e; cases e)) S ?_; clear S; intro h b S n_b; simp only [an] at S
 simp only [BS, Tryz.FFt949]
 refine ao aJ S ?_; clear S; intro h b2 S n_b2
 simp only [BS]
 refine aI (aR rfl) (q := 0) (ps := [(5, 7), (2, 7), (2, 4)]) (by kernel_rfl) ?_
 simp only [BS, LB, cls, Nat.reduceLT, Nat.reduceEqDiff, Nat.reduceAdd, Nat.reducePow, Nat.reduceDiv, Nat.reduceMod, Nat.reduceLeDiff, Tryz.FFt949, S.ld (b := b) (o := 1) (by repeat constructor) rfl]
 refine dO (mb S.ok (ga.X.gr S.gr) (by omega)) ?_
 have k1 := S.fr.n
 rintro v1 h ⟨g, s1, q1⟩
 have e1 := aW g ((S.row (b := b) m1).lt S.ok)
 have a1 : ∀ c, ax v1 c → ¬ c = b := fun c hc e => by have := q1 c hc; have := (S.row (b := b) m1).lt S.ok; omega
 have b1' : ∀ c, ax v1 c → ¬ c = b2 := fun c hc e => by have := q1 c hc; have := (S.row (b := b2) m0).lt S.ok; omega
 replace S := S.call g
 simp only [BS, LB, cls, Nat.reduceLT, Nat.reduceEqDiff, Nat.reduceAdd, Nat.reducePow, Nat.reduceDiv, Nat.reduceMod, Nat.reduceLeDiff, Tryz.FFt949, S.ld (b := b) (o := 2) (by repeat constructor) rfl]
 refine dO (mb S.ok (ga.Y.gr S.gr) (by omega)) ?_
 have k2 := S.fr.n
 rintro v2 h ⟨g, s2, q2⟩
 have e2 := aW g ((S.row (b := b) m1).lt S.ok)
 have a2 : ∀ c, ax v2 c → ¬ c = b := fun c hc e => by have := q2 c hc; have := (S.row (b := b) m1).lt S.ok; omega
 have b2' : ∀ c, ax v2 c → ¬ c = b2 := fun c hc e => by have := q2 c hc; have := (S.row (b := b2) m0).lt S.ok; omega
 replace S := S.call g
 replace s1 := s1.gr g
 simp only [BS, LB, cls, Nat.reduceLT, Nat.reduceEqDiff, Nat.reduceAdd, Nat.reducePow, Nat.reduceDiv, Nat.reduceMod, Nat.reduceLeDiff, Tryz.FFt949, S.ld (b := b) (o := 3) (by repeat constructor) rfl]
 refine dO (sO S.ok (ga.A.gr S.gr) (by omega)) ?_
 have k3 := S.fr.n
 rintro v3 h ⟨g, s3, q3, w3⟩
 have d3 : ∀ c, ax v3 c → ¬ ax v1 c ∧ ¬ ax v2 c := fun c hc => ⟨fun h => by have := q3 c hc; have := s1.lt S.ok h; omega, fun h => by have := q3 c hc; have := s2.lt S.ok h; omega⟩
 have e3 := aW g ((S.row (b := b) m1).lt S.ok)
 have a3 : ∀ c, ax v3 c → ¬ c = b := fun c hc e => by have := q3 c hc; have := (S.row (b := b) m1).lt S.ok; omega
 have b3' : ∀ c, ax v3 c → ¬ c = b2 := fun c hc e => by have := q3 c hc; have := (S.row (b := b2) m0).lt S.ok; omega
 replace S := S.call g
 replace s1 := s1.gr g
 replace s2 := s2.gr g
 have z : ∀ c, ax v1 c ∨ ax v2 c ∨ ax v3 c → h0.n ≤ c := fun c hc => by
  rcases hc with h | h | h
  · exact Nat.le_trans k1 (q1 c h)
  · exact Nat.le_trans k2 (q2 c h)
  · exact Nat.le_trans k3 (q3 c h)
 have f1 := s1.fl
 have f2 := s2.fl
 have f3 := s3.fl
 simp only [BS, LB, cls, Nat.reduceLT, Nat.reduceEqDiff, Nat.reduceAdd, Nat.reducePow, Nat.reduceDiv, Nat.reduceMod, Nat.reduceLeDiff, Tryz.FFt949]
 first | refine aO (ab S (i := 0) rfl ?_ ?_ ?_ ono) ?_ | refine aO (ab S (i := 1) rfl ?_ ?_ ?_ ono) ?_ | refine aO (ab S (i := 2) rfl ?_ ?_ ?_ ono) ?_ | refine aO (ab S (i := 3) rfl ?_ ?_ ?_ ono) ?_ | refine aO (ab S (i := 4) rfl ?_ ?_ ?_ ono) ?_ | refine aO (ab S (i := 5) rfl ?_ ?_ ?_ ono) ?_ | refine aO (ab S (i := 6) rfl ?_ ?_ ?_ ono) ?_ | refine aO (ab S (i := 7) rfl ?_ ?_ ?_ ono) ?_
 · exact (by simp only [Tryz.FFt949])
 · exact (by first | exact aM | exact aw | exact aX | exact aT | exact bo | exact aP | exact aU | exact aK | exact aV | exact bz | assumption)
 · exact Nat.lt_of_succ_le (lbt rfl)
 clear S; rintro h ⟨S, mo⟩; replace s1 := s1.mo mo a1; replace s2 := s2.mo mo a2; replace s3 := s3.mo mo a3; replace w3 := w3.mo mo a3; clear mo; simp only [List.set_cons_zero, List.set_cons_succ, an, lay, List.take, List.drop, List.nil_append, List.cons_append, List.append_nil, List.length_cons, List.length_nil, Nat.reduceAdd, Nat.add_zero] at S
 simp only [BS, LB, cls, Nat.reduceLT, Nat.reduceEqDiff, Nat.reduceAdd, Nat.reducePow, Nat.reduceDiv, Nat.reduceMod, Nat.reduceLeDiff, Tryz.FFt949]
 first | refine aO (ab S (i := 0) rfl ?_ ?_ ?_ ono) ?_ | refine aO (ab S (i := 1) rfl ?_ ?_ ?_ ono) ?_ | refine aO (ab S (i := 2) rfl ?_ ?_ ?_ ono) ?_ | refine aO (ab S (i := 3) rfl ?_ ?_ ?_ ono) ?_ | refine aO (ab S (i := 4) rfl ?_ ?_ ?_ ono) ?_ | refine aO (ab S (i := 5) rfl ?_ ?_ ?_ ono) ?_ | refine aO (ab S (i := 6) rfl ?_ ?_ ?_ ono) ?_ | refine aO (ab S (i := 7) rfl ?_ ?_ ?_ ono) ?_
 · exact (by simp only [Tryz.FFt949])
 · exact (by first | exact aM | exact aw | exact aX | exact aT | exact bo | exact aP | exact aU | exact aK | exact aV | exact bz | assumption)
 · exact Nat.lt_of_succ_le (lbt rfl)
 clear S; rintro h ⟨S, mo⟩; replace s1 := s1.mo mo a1; replace s2 := s2.mo mo a2; replace s3 := s3.mo mo a3; replace w3 := w3.mo mo a3; clear mo; simp only [List.set_cons_zero, List.set_cons_succ, an, lay, List.take, List.drop, List.nil_append, List.cons_append, List.append_nil, List.length_cons, List.length_nil, Nat.reduceAdd, Nat.add_zero] at S
 simp only [BS, LB, cls, Nat.reduceLT, Nat.reduceEqDiff, Nat.reduceAdd, Nat.reducePow, Nat.reduceDiv, Nat.reduceMod, Nat.reduceLeDiff, Tryz.FFt949]
 first | refine aO (ab S (i := 0) rfl ?_ ?_ ?_ ono) ?_ | refine aO (ab S (i := 1) rfl ?_ ?_ ?_ ono) ?_ | refine aO (ab S (i := 2) rfl ?_ ?_ ?_ ono) ?_ | refine aO (ab S (i := 3) rfl ?_ ?_ ?_ ono) ?_ | refine aO (ab S (i := 4) rfl ?_ ?_ ?_ ono) ?_ | refine aO (ab S (i := 5) rfl ?_ ?_ ?_ ono) ?_ | refine aO (ab S (i := 6) rfl ?_ ?_ ?_ ono) ?_ | refine aO (ab S (i := 7) rfl ?_ ?_ ?_ ono) ?_
 · exact (by simp only [Tryz.FFt949])
 · exact (by first | exact aM | exact aw | exact aX | exact aT | exact bo | exact aP | exact aU | exact aK | exact aV | exact bz | assumption)
 · exact Nat.lt_of_succ_le (lbt rfl)
 clear S; rintro h ⟨S, mo⟩; replace s1 := s1.mo mo a1; replace s2 := s2.mo mo a2; replace s3 := s3.mo mo a3; replace w3 := w3.mo mo a3; clear mo; simp only [List.set_cons_zero, List.set_cons_succ, an, lay, List.take, List.drop, List.nil_append, List.cons_append, List.append_nil, List.length_cons, List.length_nil, Nat.reduceAdd, Nat.add_zero] at S
 simp only [BS, LB, Nat.reduceLT, Nat.reduceEqDiff, Nat.reduceAdd, Tryz.FFt949]
 refine ⟨by simp only [bL, bR, bC, bU, bF, ne_eq, not_false_eq_true, bW, cB, bJ, bG, cK, dk, bH, Nat.reduceLT, Nat.reduceEqDiff, reduceIte, Bool.and_true, bg, ae, aS e1, aS e2, aS e3, bn e1, bn e2, bn e3], ?_⟩
 simp only [BS, LB, Nat.reduceLT, Nat.reduceEqDiff, S.lds (b := b) (o := 0) (n := 4) (by repeat constructor) (lbt rfl)]
 refine ac (S.store (i := 0) rfl Tryz.s31 (by intro x e; cases e) rfl (by simp only [an, List.take, List.drop, List.all_cons, List.all_nil, f1.2.1, f2.2.1, f3.2.1, Bool.and_true]; rfl) (lbt rfl) ono) ?_
 clear S
 rintro h' ⟨S, g2⟩
 simp only [List.set_cons_zero, List.set_cons_succ, an, lay, List.take, List.drop, List.nil_append, List.cons_append, List.append_nil, List.length_cons, List.length_nil, Nat.reduceAdd, Nat.add_zero] at S
 simp only [BS, ag]
 refine ⟨_, nw (by decide) (by simp only [bH, ae, Nat.reduceEqDiff, reduceIte]; exact eK Tryz.a31 Tryz.s31 (S.lds (b := b2) (o := 0) (n := 4) m0 (lbt rfl))), ?_⟩
 exact ⟨S.gr, v1, v2, v3, rfl, ⟨s1.mo g2 b1', s2.mo g2 b2', s3.mo g2 b3'⟩, z, w3.mo g2 b3', d3⟩
end Go.Ab

end
section
namespace Go.Ab
section
variable (A : List Arc) (f : Arc → Nat)
def outs (j v : Nat) : List Nat := (List.range j).filter fun i => decide (f (A.getD i default) = v)
def start : Nat → Nat
 | 0 => 0
 | v + 1 => start v + (outs A f A.length v).length
theorem eO (j v : Nat) : outs A f (j + 1) v = outs A f j v ++ (if f (A.getD j default) = v then [j] else []) := by
 unfold outs
 rw [List.range_succ, List.filter_append]
 congr 1
 by_cases h : f (A.getD j default) = v
 · simp only [List.filter_cons, List.filter_nil, h, decide_true, if_true]
 · simp only [List.filter_cons, List.filter_nil, h, decide_false, if_false, Bool.false_eq_true]
theorem outs_pre {j k : Nat} (h : j ≤ k) (v : Nat) : ∃ l, outs A f k v = outs A f j v ++ l := by
 induction k with
 | zero => have : j = 0 := by omega
           subst this; exact ⟨[], by simp⟩
 | succ k ih =>
   by_cases hk : j = k + 1
   · subst hk; exact ⟨[], by simp⟩
   · obtain ⟨l, hl⟩ := ih (by omega)
     exact ⟨l ++ _, by rw [eO, hl, List.append_assoc]⟩
theorem qd {j k : Nat} (h : j ≤ k) (v : Nat) : (outs A f j v).length ≤ (outs A f k v).length := by
 obtain ⟨l, hl⟩ := outs_pre A f h v
 rw [hl, List.length_append]; omega
theorem start_eq (v : Nat) : start A f v = ((List.range A.length).filter fun i => decide (f (A.getD i default) < v)).length := by
 have key : ∀ (l : List Nat) (v : Nat), (l.filter fun i => decide (f (A.getD i default) < v + 1)).length = (l.filter fun i => decide (f (A.getD i default) < v)).length + (l.filter fun i => decide (f (A.getD i default) = v)).length := by
  intro l v
  induction l with
  | nil => rfl
  | cons x l ih =>
    simp only [List.filter_cons]
    by_cases h1 : f (A.getD x default) < v
    · have h2 : f (A.getD x default) < v + 1 := by omega
      have h3 : ¬ f (A.getD x default) = v := by omega
      rw [if_pos (decide_eq_true h2), if_pos (decide_eq_true h1), if_neg (by rw [decide_eq_true_eq]; exact h3), List.length_cons, List.length_cons, ih]; omega
    · by_cases h3 : f (A.getD x default) = v
      · have h2 : f (A.getD x default) < v + 1 := by omega
        rw [if_pos (decide_eq_true h2), if_neg (by rw [decide_eq_true_eq]; exact h1), if_pos (decide_eq_true h3), List.length_cons, List.length_cons, ih]; omega
      · have h2 : ¬ f (A.getD x default) < v + 1 := by omega
        rw [if_neg (by rw [decide_eq_true_eq]; exact h2), if_neg (by rw [decide_eq_true_eq]; exact h1), if_neg (by rw [decide_eq_true_eq]; exact h3), ih]
 induction v with
 | zero => rw [start]; symm; rw [List.length_eq_zero_iff, List.filter_eq_nil_iff]; intro a _; simp only [Nat.not_lt_zero, decide_false, Bool.false_eq_true, not_false_eq_true]
 | succ v ih => rw [start, ih, key]; rfl
theorem kR (v : Nat) : start A f v + (outs A f A.length v).length ≤ A.length := by
 have := start_eq A f (v + 1)
 rw [start] at this
 rw [this]
 exact Nat.le_trans (List.length_filter_le _ _) (by simp)
theorem oO {u v : Nat} (h : u < v) : start A f u + (outs A f A.length u).length ≤ start A f v := by
 induction v with
 | zero => omega
 | succ v ih =>
   rw [start]
   by_cases hu : u = v
   · subst hu; exact Nat.le_refl _
   · have := ih (by omega); omega
theorem sW {u v r s : Nat} (hr : r < (outs A f A.length u).length) (hs : s < (outs A f A.length v).length) (h : start A f u + r = start A f v + s) : u = v ∧ r = s := by
 rcases Nat.lt_trichotomy u v with h1 | h1 | h1
 · have := oO A f h1; omega
 · subst h1; exact ⟨rfl, by omega⟩
 · have := oO A f h1; omega
end
def eC (x : Nat) : List Value := [.int .i64 x]
theorem e6 (x : Nat) : (eC x).length = 1 := rfl
def d5 (h : Hp) (m : Nat) (v : Value) (N : Nat) (R : Nat → List Nat) : Prop :=
 ∃ bv vs, v = .slice (some ⟨bv, 0, none⟩) N N ∧ m ≤ bv ∧ Row h bv vs 1 ∧ vs.length = N ∧ ∀ i, i < N → ∃ w, vs[i]? = some w ∧ aB h 1 eC w (R i) ∧ ∀ c, ax w c → m ≤ c
theorem d5.mo {M : Nat → Prop} {h h' : Hp} {v : Value} {m N : Nat} {R : Nat → List Nat} (r : d5 h m v N R) (g : Mo M h h') (hm : ∀ b, M b → b < m) : d5 h' m v N R := by
 obtain ⟨bv, vs, h1, h0, h2, h3, h4⟩ := r
 refine ⟨bv, vs, h1, by omega, g.has (o := .row vs 1) h2 (fun h => by have := hm _ h; omega), h3, fun i hi => ?_⟩
 obtain ⟨w, a, b, c⟩ := h4 i hi
 exact ⟨w, a, b.mo g fun x hx hM => by have := hm _ hM; have := c x hx; omega, fun x hx => by have := c x hx; omega⟩
theorem d5.gr {h h' : Hp} {v : Value} {m N : Nat} {R : Nat → List Nat} (g : Gr h h') (r : d5 h m v N R) : d5 h' m v N R :=
 r.mo (M := NoM) g.fr (fun _ h => h.elim)
theorem d5.low {h : Hp} {v : Value} {m m' N : Nat} {R : Nat → List Nat} (r : d5 h m v N R) (hm : m' ≤ m) : d5 h m' v N R := by
 obtain ⟨bv, vs, h1, h0, h2, h3, h4⟩ := r
 exact ⟨bv, vs, h1, by omega, h2, h3, fun i hi => by
  obtain ⟨w, a, b, c⟩ := h4 i hi
  exact ⟨w, a, b, fun x hx => by have := c x hx; omega⟩⟩
structure dg (h : Hp) (m : Nat) (p : Value) (γ : Gra) : Prop where
 ex : ∃ b vx vy va vo vi, p = ptrTo b ∧ Row h b [.int .i64 γ.nodes, vx, vy, va, vo, vi] 1 ∧ cL h vx vy va γ ∧ d5 h m vo γ.nodes (outs γ.arcs Arc.s γ.arcs.length) ∧ d5 h m vi γ.nodes (outs γ.arcs Arc.t γ.arcs.length) ∧ m ≤ b ∧ ∀ c, ax vx c ∨ ax vy c ∨ ax va c → m ≤ c
theorem cL.mo {M : Nat → Prop} {h h' : Hp} {vx vy va : Value} {γ : Gra} (a : cL h vx vy va γ) (g : Mo M h h') (hm : ∀ c, ax vx c ∨ ax vy c ∨ ax va c → ¬ M c) : cL h' vx vy va γ :=
 ⟨a.X.mo g fun c h => hm c (.inl h), a.Y.mo g fun c h => hm c (.inr (.inl h)), a.A.mo g fun c h => hm c (.inr (.inr h))⟩
theorem dg.mo {M : Nat → Prop} {h h' : Hp} {m : Nat} {p : Value} {γ : Gra} (n : dg h m p γ) (g : Mo M h h') (hm : ∀ b, M b → b < m) : dg h' m p γ := by
 obtain ⟨b, vx, vy, va, vo, vi, h1, h2, h3, h4, h5, h6, h7⟩ := n.ex
 exact ⟨b, vx, vy, va, vo, vi, h1, g.has (o := .row _ 1) h2 (fun h => by have := hm _ h; omega), h3.mo g (fun c hc hM => by have := hm _ hM; have := h7 c hc; omega), h4.mo g hm, h5.mo g hm, h6, h7⟩
theorem dg.gr {h h' : Hp} {m : Nat} {p : Value} {γ : Gra} (n : dg h m p γ) (g : Gr h h') : dg h' m p γ := n.mo (M := NoM) g.fr (fun _ h => h.elim)
theorem iJ {α : Type} {N k : Nat} {F F' : Nat → α} (hk : ∀ i, i < N → i ≠ k → F' i = F i) : ((List.range N).map F).set k (F' k) = (List.range N).map F' := by
 refine List.ext_getElem? fun i => ?_
 rw [List.getElem?_set]
 by_cases hi : i < N
 · by_cases e : k = i
   · subst e; simp [hi]
   · rw [if_neg e]; simp [hi, hk i hi (Ne.symm e)]
 · by_cases e : k = i
   · subst e; simp [hi]
   · rw [if_neg e]; simp [hi]
theorem iQ {α : Type} {N k : Nat} {F : Nat → α} (hk : k < N) : ((List.range N).map F)[k]? = some (F k) := by simp [hk]
end Go.Ab

end

/- Nets, cells, flags: what the functions do (part 1). -/
import Derived.Test.YtinehcdadfajmaaGreatDoorEnv
set_option linter.defProp false
set_option linter.unusedVariables false
set_option linter.unusedSimpArgs false
section
/- What is known of types and functions. -/
set_option maxHeartbeats 4000000
namespace Go.Ab
open Go.Proofs
theorem Tryz.a1 : Tryz.abEnv.agg 1 = some false := by kernel_rfl
theorem Tryz.s1 : Tryz.abEnv.sz 1 = some 1 := by kernel_rfl
theorem Tryz.z1 : Tryz.abEnv.zero 1 = some [.nilFunc] := by kernel_rfl
theorem Tryz.n1 : intTy Tryz.abEnv 1 = some false := by kernel_rfl
theorem Tryz.u2 : Tryz.abEnv.und 2 = some (.int .i64) := by kernel_rfl
theorem Tryz.a2 : Tryz.abEnv.agg 2 = some false := by kernel_rfl
theorem Tryz.s2 : Tryz.abEnv.sz 2 = some 1 := by kernel_rfl
theorem Tryz.z2 : Tryz.abEnv.zero 2 = some [.int .i64 0] := by kernel_rfl
theorem Tryz.i2 : isStr Tryz.abEnv 2 = true := by kernel_rfl
theorem Tryz.e2E : ElemIs Tryz.abEnv 2 8 1 [.int .i64 0] := ⟨⟨_, rfl, by kernel_rfl, by kernel_rfl⟩, Tryz.z2, rfl⟩
theorem Tryz.u3 : Tryz.abEnv.und 3 = some (.int .i64) := by kernel_rfl
theorem Tryz.a3 : Tryz.abEnv.agg 3 = some false := by kernel_rfl
theorem Tryz.s3 : Tryz.abEnv.sz 3 = some 1 := by kernel_rfl
theorem Tryz.z3 : Tryz.abEnv.zero 3 = some [.int .i64 0] := by kernel_rfl
theorem Tryz.i3 : isStr Tryz.abEnv 3 = true := by kernel_rfl
theorem Tryz.e3E : ElemIs Tryz.abEnv 3 8 1 [.int .i64 0] := ⟨⟨_, rfl, by kernel_rfl, by kernel_rfl⟩, Tryz.z3, rfl⟩
theorem Tryz.u4 : Tryz.abEnv.und 4 = some .bool := by kernel_rfl
theorem Tryz.a4 : Tryz.abEnv.agg 4 = some false := by kernel_rfl
theorem Tryz.s4 : Tryz.abEnv.sz 4 = some 1 := by kernel_rfl
theorem Tryz.z4 : Tryz.abEnv.zero 4 = some [.bool false] := by kernel_rfl
theorem Tryz.n4 : intTy Tryz.abEnv 4 = some false := by kernel_rfl
theorem Tryz.e4E : ElemIs Tryz.abEnv 4 1 1 [.bool false] := ⟨⟨_, rfl, by kernel_rfl, by kernel_rfl⟩, Tryz.z4, rfl⟩
theorem Tryz.u5 : Tryz.abEnv.und 5 = some (.int .u8) := by kernel_rfl
theorem Tryz.a5 : Tryz.abEnv.agg 5 = some false := by kernel_rfl
theorem Tryz.s5 : Tryz.abEnv.sz 5 = some 1 := by kernel_rfl
theorem Tryz.z5 : Tryz.abEnv.zero 5 = some [.int .u8 0] := by kernel_rfl
theorem Tryz.i5 : isStr Tryz.abEnv 5 = true := by kernel_rfl
theorem Tryz.e5E : ElemIs Tryz.abEnv 5 1 1 [.int .u8 0] := ⟨⟨_, rfl, by kernel_rfl, by kernel_rfl⟩, Tryz.z5, rfl⟩
theorem Tryz.u6 : Tryz.abEnv.und 6 = some (.int .u8) := by kernel_rfl
theorem Tryz.a6 : Tryz.abEnv.agg 6 = some false := by kernel_rfl
theorem Tryz.s6 : Tryz.abEnv.sz 6 = some 1 := by kernel_rfl
theorem Tryz.z6 : Tryz.abEnv.zero 6 = some [.int .u8 0] := by kernel_rfl
theorem Tryz.i6 : isStr Tryz.abEnv 6 = true := by kernel_rfl
theorem Tryz.u22 : Tryz.abEnv.und 22 = some (.slice 5) := by kernel_rfl
theorem Tryz.a22 : Tryz.abEnv.agg 22 = some false := by kernel_rfl
theorem Tryz.s22 : Tryz.abEnv.sz 22 = some 1 := by kernel_rfl
theorem Tryz.z22 : Tryz.abEnv.zero 22 = some [.slice none 0 0] := by kernel_rfl
theorem Tryz.q22 : isSl Tryz.abEnv 22 = true := by kernel_rfl
theorem Tryz.n22 : intTy Tryz.abEnv 22 = some false := by kernel_rfl
theorem Tryz.a24 : Tryz.abEnv.agg 24 = some true := by kernel_rfl
theorem Tryz.s24 : Tryz.abEnv.sz 24 = some 2 := by kernel_rfl
theorem Tryz.z24 : Tryz.abEnv.zero 24 = some [.slice none 0 0, .slice none 0 0] := by kernel_rfl
theorem Tryz.i24 : isStr Tryz.abEnv 24 = true := by kernel_rfl
theorem Tryz.n24 : intTy Tryz.abEnv 24 = some false := by kernel_rfl
theorem Tryz.p24 : placesOf Tryz.abEnv 24 = some [(0, 1), (1, 1)] := by kernel_rfl
theorem Tryz.ff24 (b o : Nat) (s : Option Nat) : fieldAddrP Tryz.abEnv 24 (.pointer (some ⟨b, o, s⟩)) 0 = some (.pointer (some ⟨b, o + 0, none⟩)) ∧ fieldAddrP Tryz.abEnv 24 (.pointer (some ⟨b, o, s⟩)) 1 = some (.pointer (some ⟨b, o + 1, none⟩)) := ⟨rfl, rfl⟩
theorem Tryz.d24 (x0 x1 : Value) : fieldP Tryz.abEnv 24 (.agg ⟨[x0, x1]⟩) 0 = some x0 ∧ fieldP Tryz.abEnv 24 (.agg ⟨[x0, x1]⟩) 1 = some x1 := ⟨rfl, rfl⟩
theorem Tryz.u25 : Tryz.abEnv.und 25 = some (.slice 2) := by kernel_rfl
theorem Tryz.a25 : Tryz.abEnv.agg 25 = some false := by kernel_rfl
theorem Tryz.s25 : Tryz.abEnv.sz 25 = some 1 := by kernel_rfl
theorem Tryz.z25 : Tryz.abEnv.zero 25 = some [.slice none 0 0] := by kernel_rfl
theorem Tryz.q25 : isSl Tryz.abEnv 25 = true := by kernel_rfl
theorem Tryz.n25 : intTy Tryz.abEnv 25 = some false := by kernel_rfl
theorem Tryz.u26 : Tryz.abEnv.und 26 = some (.slice 60) := by kernel_rfl
theorem Tryz.a26 : Tryz.abEnv.agg 26 = some false := by kernel_rfl
theorem Tryz.s26 : Tryz.abEnv.sz 26 = some 1 := by kernel_rfl
theorem Tryz.z26 : Tryz.abEnv.zero 26 = some [.slice none 0 0] := by kernel_rfl
theorem Tryz.q26 : isSl Tryz.abEnv 26 = true := by kernel_rfl
theorem Tryz.n26 : intTy Tryz.abEnv 26 = some false := by kernel_rfl
theorem Tryz.a28 : Tryz.abEnv.agg 28 = some true := by kernel_rfl
theorem Tryz.s28 : Tryz.abEnv.sz 28 = some 4 := by kernel_rfl
theorem Tryz.z28 : Tryz.abEnv.zero 28 = some [.int .i64 0, .slice none 0 0, .slice none 0 0, .slice none 0 0] := by kernel_rfl
theorem Tryz.i28 : isStr Tryz.abEnv 28 = true := by kernel_rfl
theorem Tryz.n28 : intTy Tryz.abEnv 28 = some false := by kernel_rfl
theorem Tryz.p28 : placesOf Tryz.abEnv 28 = some [(0, 1), (1, 1), (2, 1), (3, 1)] := by kernel_rfl
theorem Tryz.ff28 (b o : Nat) (s : Option Nat) : fieldAddrP Tryz.abEnv 28 (.pointer (some ⟨b, o, s⟩)) 0 = some (.pointer (some ⟨b, o + 0, none⟩)) ∧ fieldAddrP Tryz.abEnv 28 (.pointer (some ⟨b, o, s⟩)) 1 = some (.pointer (some ⟨b, o + 1, none⟩)) ∧ fieldAddrP Tryz.abEnv 28 (.pointer (some ⟨b, o, s⟩)) 2 = some (.pointer (some ⟨b, o + 2, none⟩)) ∧ fieldAddrP Tryz.abEnv 28 (.pointer (some ⟨b, o, s⟩)) 3 = some (.pointer (some ⟨b, o + 3, none⟩)) := ⟨rfl, rfl, rfl, rfl⟩
theorem Tryz.d28 (x0 x1 x2 x3 : Value) : fieldP Tryz.abEnv 28 (.agg ⟨[x0, x1, x2, x3]⟩) 0 = some x0 ∧ fieldP Tryz.abEnv 28 (.agg ⟨[x0, x1, x2, x3]⟩) 1 = some x1 ∧ fieldP Tryz.abEnv 28 (.agg ⟨[x0, x1, x2, x3]⟩) 2 = some x2 ∧ fieldP Tryz.abEnv 28 (.agg ⟨[x0, x1, x2, x3]⟩) 3 = some x3 := ⟨rfl, rfl, rfl, rfl⟩
theorem Tryz.u29 : Tryz.abEnv.und 29 = some (.pointer 152) := by kernel_rfl
theorem Tryz.a29 : Tryz.abEnv.agg 29 = some false := by kernel_rfl
theorem Tryz.s29 : Tryz.abEnv.sz 29 = some 1 := by kernel_rfl
theorem Tryz.z29 : Tryz.abEnv.zero 29 = some [.pointer none] := by kernel_rfl
theorem Tryz.q29 : isPtr Tryz.abEnv 29 = true := by kernel_rfl
theorem Tryz.i29 : isStr Tryz.abEnv 29 = true := by kernel_rfl
theorem Tryz.n29 : intTy Tryz.abEnv 29 = some false := by kernel_rfl
theorem Tryz.u30 : Tryz.abEnv.und 30 = some (.pointer 97) := by kernel_rfl
theorem Tryz.a30 : Tryz.abEnv.agg 30 = some false := by kernel_rfl
theorem Tryz.s30 : Tryz.abEnv.sz 30 = some 1 := by kernel_rfl
theorem Tryz.z30 : Tryz.abEnv.zero 30 = some [.pointer none] := by kernel_rfl
theorem Tryz.q30 : isPtr Tryz.abEnv 30 = true := by kernel_rfl
theorem Tryz.i30 : isStr Tryz.abEnv 30 = true := by kernel_rfl
theorem Tryz.n30 : intTy Tryz.abEnv 30 = some false := by kernel_rfl
theorem Tryz.u35 : Tryz.abEnv.und 35 = some (.slice 3) := by kernel_rfl
theorem Tryz.a35 : Tryz.abEnv.agg 35 = some false := by kernel_rfl
theorem Tryz.s35 : Tryz.abEnv.sz 35 = some 1 := by kernel_rfl
theorem Tryz.z35 : Tryz.abEnv.zero 35 = some [.slice none 0 0] := by kernel_rfl
theorem Tryz.q35 : isSl Tryz.abEnv 35 = true := by kernel_rfl
theorem Tryz.n35 : intTy Tryz.abEnv 35 = some false := by kernel_rfl
theorem Tryz.e35E : ElemIs Tryz.abEnv 35 24 1 [.slice none 0 0] := ⟨⟨_, rfl, by kernel_rfl, by kernel_rfl⟩, Tryz.z35, rfl⟩
theorem Tryz.u37 : Tryz.abEnv.und 37 = some (.pointer 99) := by kernel_rfl
theorem Tryz.a37 : Tryz.abEnv.agg 37 = some false := by kernel_rfl
theorem Tryz.s37 : Tryz.abEnv.sz 37 = some 1 := by kernel_rfl
theorem Tryz.z37 : Tryz.abEnv.zero 37 = some [.pointer none] := by kernel_rfl
theorem Tryz.q37 : isPtr Tryz.abEnv 37 = true := by kernel_rfl
theorem Tryz.i37 : isStr Tryz.abEnv 37 = true := by kernel_rfl
theorem Tryz.n37 : intTy Tryz.abEnv 37 = some false := by kernel_rfl
theorem Tryz.a60 : Tryz.abEnv.agg 60 = some true := by kernel_rfl
theorem Tryz.s60 : Tryz.abEnv.sz 60 = some 3 := by kernel_rfl
theorem Tryz.z60 : Tryz.abEnv.zero 60 = some [.int .i64 0, .int .i64 0, .int .i64 0] := by kernel_rfl
theorem Tryz.i60 : isStr Tryz.abEnv 60 = true := by kernel_rfl
theorem Tryz.n60 : intTy Tryz.abEnv 60 = some false := by kernel_rfl
theorem Tryz.p60 : placesOf Tryz.abEnv 60 = some [(0, 1), (1, 1), (2, 1)] := by kernel_rfl
theorem Tryz.ff60 (b o : Nat) (s : Option Nat) : fieldAddrP Tryz.abEnv 60 (.pointer (some ⟨b, o, s⟩)) 0 = some (.pointer (some ⟨b, o + 0, none⟩)) ∧ fieldAddrP Tryz.abEnv 60 (.pointer (some ⟨b, o, s⟩)) 1 = some (.pointer (some ⟨b, o + 1, none⟩)) ∧ fieldAddrP Tryz.abEnv 60 (.pointer (some ⟨b, o, s⟩)) 2 = some (.pointer (some ⟨b, o + 2, none⟩)) := ⟨rfl, rfl, rfl⟩
theorem Tryz.d60 (x0 x1 x2 : Value) : fieldP Tryz.abEnv 60 (.agg ⟨[x0, x1, x2]⟩) 0 = some x0 ∧ fieldP Tryz.abEnv 60 (.agg ⟨[x0, x1, x2]⟩) 1 = some x1 ∧ fieldP Tryz.abEnv 60 (.agg ⟨[x0, x1, x2]⟩) 2 = some x2 := ⟨rfl, rfl, rfl⟩
theorem Tryz.e60E : ElemIs Tryz.abEnv 60 24 3 [.int .i64 0, .int .i64 0, .int .i64 0] := ⟨⟨_, rfl, by kernel_rfl, by kernel_rfl⟩, Tryz.z60, rfl⟩
theorem Tryz.a97 : Tryz.abEnv.agg 97 = some true := by kernel_rfl
theorem Tryz.s97 : Tryz.abEnv.sz 97 = some 2 := by kernel_rfl
theorem Tryz.z97 : Tryz.abEnv.zero 97 = some [.slice none 0 0, .int .i64 0] := by kernel_rfl
theorem Tryz.i97 : isStr Tryz.abEnv 97 = true := by kernel_rfl
theorem Tryz.n97 : intTy Tryz.abEnv 97 = some false := by kernel_rfl
theorem Tryz.p97 : placesOf Tryz.abEnv 97 = some [(0, 1), (1, 1)] := by kernel_rfl
theorem Tryz.ff97 (b o : Nat) (s : Option Nat) : fieldAddrP Tryz.abEnv 97 (.pointer (some ⟨b, o, s⟩)) 0 = some (.pointer (some ⟨b, o + 0, none⟩)) ∧ fieldAddrP Tryz.abEnv 97 (.pointer (some ⟨b, o, s⟩)) 1 = some (.pointer (some ⟨b, o + 1, none⟩)) := ⟨rfl, rfl⟩
theorem Tryz.d97 (x0 x1 : Value) : fieldP Tryz.abEnv 97 (.agg ⟨[x0, x1]⟩) 0 = some x0 ∧ fieldP Tryz.abEnv 97 (.agg ⟨[x0, x1]⟩) 1 = some x1 := ⟨rfl, rfl⟩
theorem Tryz.a99 : Tryz.abEnv.agg 99 = some true := by kernel_rfl
theorem Tryz.s99 : Tryz.abEnv.sz 99 = some 4 := by kernel_rfl
theorem Tryz.z99 : Tryz.abEnv.zero 99 = some [.int .i64 0, .int .i64 0, .int .i64 0, .slice none 0 0] := by kernel_rfl
theorem Tryz.i99 : isStr Tryz.abEnv 99 = true := by kernel_rfl
theorem Tryz.n99 : intTy Tryz.abEnv 99 = some false := by kernel_rfl
theorem Tryz.p99 : placesOf Tryz.abEnv 99 = some [(0, 1), (1, 1), (2, 1), (3, 1)] := by kernel_rfl
theorem Tryz.ff99 (b o : Nat) (s : Option Nat) : fieldAddrP Tryz.abEnv 99 (.pointer (some ⟨b, o, s⟩)) 0 = some (.pointer (some ⟨b, o + 0, none⟩)) ∧ fieldAddrP Tryz.abEnv 99 (.pointer (some ⟨b, o, s⟩)) 1 = some (.pointer (some ⟨b, o + 1, none⟩)) ∧ fieldAddrP Tryz.abEnv 99 (.pointer (some ⟨b, o, s⟩)) 2 = some (.pointer (some ⟨b, o + 2, none⟩)) ∧ fieldAddrP Tryz.abEnv 99 (.pointer (some ⟨b, o, s⟩)) 3 = some (.pointer (some ⟨b, o + 3, none⟩)) := ⟨rfl, rfl, rfl, rfl⟩
theorem Tryz.d99 (x0 x1 x2 x3 : Value) : fieldP Tryz.abEnv 99 (.agg ⟨[x0, x1, x2, x3]⟩) 0 = some x0 ∧ fieldP Tryz.abEnv 99 (.agg ⟨[x0, x1, x2, x3]⟩) 1 = some x1 ∧ fieldP Tryz.abEnv 99 (.agg ⟨[x0, x1, x2, x3]⟩) 2 = some x2 ∧ fieldP Tryz.abEnv 99 (.agg ⟨[x0, x1, x2, x3]⟩) 3 = some x3 := ⟨rfl, rfl, rfl, rfl⟩
theorem Tryz.u150 : Tryz.abEnv.und 150 = some (.slice 35) := by kernel_rfl
theorem Tryz.a150 : Tryz.abEnv.agg 150 = some false := by kernel_rfl
theorem Tryz.s150 : Tryz.abEnv.sz 150 = some 1 := by kernel_rfl
theorem Tryz.z150 : Tryz.abEnv.zero 150 = some [.slice none 0 0] := by kernel_rfl
theorem Tryz.q150 : isSl Tryz.abEnv 150 = true := by kernel_rfl
theorem Tryz.n150 : intTy Tryz.abEnv 150 = some false := by kernel_rfl
theorem Tryz.a152 : Tryz.abEnv.agg 152 = some true := by kernel_rfl
theorem Tryz.s152 : Tryz.abEnv.sz 152 = some 6 := by kernel_rfl
theorem Tryz.z152 : Tryz.abEnv.zero 152 = some [.int .i64 0, .slice none 0 0, .slice none 0 0, .slice none 0 0, .slice none 0 0, .slice none 0 0] := by kernel_rfl
theorem Tryz.i152 : isStr Tryz.abEnv 152 = true := by kernel_rfl
theorem Tryz.n152 : intTy Tryz.abEnv 152 = some false := by kernel_rfl
theorem Tryz.p152 : placesOf Tryz.abEnv 152 = some [(0, 4), (4, 1), (5, 1)] := by kernel_rfl
theorem Tryz.ff152 (b o : Nat) (s : Option Nat) : fieldAddrP Tryz.abEnv 152 (.pointer (some ⟨b, o, s⟩)) 0 = some (.pointer (some ⟨b, o + 0, none⟩)) ∧ fieldAddrP Tryz.abEnv 152 (.pointer (some ⟨b, o, s⟩)) 1 = some (.pointer (some ⟨b, o + 4, none⟩)) ∧ fieldAddrP Tryz.abEnv 152 (.pointer (some ⟨b, o, s⟩)) 2 = some (.pointer (some ⟨b, o + 5, none⟩)) := ⟨rfl, rfl, rfl⟩
theorem Tryz.d152 (x0 x1 x2 x3 x4 x5 : Value) : fieldP Tryz.abEnv 152 (.agg ⟨[x0, x1, x2, x3, x4, x5]⟩) 0 = some (.agg ⟨[x0, x1, x2, x3]⟩) ∧ fieldP Tryz.abEnv 152 (.agg ⟨[x0, x1, x2, x3, x4, x5]⟩) 1 = some x4 ∧ fieldP Tryz.abEnv 152 (.agg ⟨[x0, x1, x2, x3, x4, x5]⟩) 2 = some x5 := ⟨rfl, rfl, rfl⟩
theorem Tryz.e3 : Tryz.abEnv.fn 3 = some Tryz.f3 := by kernel_rfl
theorem Tryz.a7 : Tryz.abEnv.agg 7 = some true := by kernel_rfl
theorem Tryz.s7 : Tryz.abEnv.sz 7 = some 4 := by kernel_rfl
theorem Tryz.z7 : Tryz.abEnv.zero 7 = some [.int .i64 0, .int .i64 0, .bool false, .int .u8 0] := by kernel_rfl
theorem Tryz.i7 : isStr Tryz.abEnv 7 = true := by kernel_rfl
theorem Tryz.n7 : intTy Tryz.abEnv 7 = some false := by kernel_rfl
theorem Tryz.p7 : placesOf Tryz.abEnv 7 = some [(0, 1), (1, 1), (2, 1), (3, 1)] := by kernel_rfl
theorem Tryz.ff7 (b o : Nat) (s : Option Nat) : fieldAddrP Tryz.abEnv 7 (.pointer (some ⟨b, o, s⟩)) 0 = some (.pointer (some ⟨b, o + 0, none⟩)) ∧ fieldAddrP Tryz.abEnv 7 (.pointer (some ⟨b, o, s⟩)) 1 = some (.pointer (some ⟨b, o + 1, none⟩)) ∧ fieldAddrP Tryz.abEnv 7 (.pointer (some ⟨b, o, s⟩)) 2 = some (.pointer (some ⟨b, o + 2, none⟩)) ∧ fieldAddrP Tryz.abEnv 7 (.pointer (some ⟨b, o, s⟩)) 3 = some (.pointer (some ⟨b, o + 3, none⟩)) := ⟨rfl, rfl, rfl, rfl⟩
theorem Tryz.d7 (x0 x1 x2 x3 : Value) : fieldP Tryz.abEnv 7 (.agg ⟨[x0, x1, x2, x3]⟩) 0 = some x0 ∧ fieldP Tryz.abEnv 7 (.agg ⟨[x0, x1, x2, x3]⟩) 1 = some x1 ∧ fieldP Tryz.abEnv 7 (.agg ⟨[x0, x1, x2, x3]⟩) 2 = some x2 ∧ fieldP Tryz.abEnv 7 (.agg ⟨[x0, x1, x2, x3]⟩) 3 = some x3 := ⟨rfl, rfl, rfl, rfl⟩
theorem Tryz.a8 : Tryz.abEnv.agg 8 = some true := by kernel_rfl
theorem Tryz.s8 : Tryz.abEnv.sz 8 = some 4 := by kernel_rfl
theorem Tryz.z8 : Tryz.abEnv.zero 8 = some [.int .i64 0, .int .i64 0, .bool false, .int .u8 0] := by kernel_rfl
theorem Tryz.i8 : isStr Tryz.abEnv 8 = true := by kernel_rfl
theorem Tryz.n8 : intTy Tryz.abEnv 8 = some false := by kernel_rfl
theorem Tryz.p8 : placesOf Tryz.abEnv 8 = some [(0, 1), (1, 1), (2, 1), (3, 1)] := by kernel_rfl
theorem Tryz.ff8 (b o : Nat) (s : Option Nat) : fieldAddrP Tryz.abEnv 8 (.pointer (some ⟨b, o, s⟩)) 0 = some (.pointer (some ⟨b, o + 0, none⟩)) ∧ fieldAddrP Tryz.abEnv 8 (.pointer (some ⟨b, o, s⟩)) 1 = some (.pointer (some ⟨b, o + 1, none⟩)) ∧ fieldAddrP Tryz.abEnv 8 (.pointer (some ⟨b, o, s⟩)) 2 = some (.pointer (some ⟨b, o + 2, none⟩)) ∧ fieldAddrP Tryz.abEnv 8 (.pointer (some ⟨b, o, s⟩)) 3 = some (.pointer (some ⟨b, o + 3, none⟩)) := ⟨rfl, rfl, rfl, rfl⟩
theorem Tryz.d8 (x0 x1 x2 x3 : Value) : fieldP Tryz.abEnv 8 (.agg ⟨[x0, x1, x2, x3]⟩) 0 = some x0 ∧ fieldP Tryz.abEnv 8 (.agg ⟨[x0, x1, x2, x3]⟩) 1 = some x1 ∧ fieldP Tryz.abEnv 8 (.agg ⟨[x0, x1, x2, x3]⟩) 2 = some x2 ∧ fieldP Tryz.abEnv 8 (.agg ⟨[x0, x1, x2, x3]⟩) 3 = some x3 := ⟨rfl, rfl, rfl, rfl⟩
theorem Tryz.u9 : Tryz.abEnv.und 9 = some .string := by kernel_rfl
theorem Tryz.a9 : Tryz.abEnv.agg 9 = some false := by kernel_rfl
theorem Tryz.s9 : Tryz.abEnv.sz 9 = some 1 := by kernel_rfl
theorem Tryz.z9 : Tryz.abEnv.zero 9 = some [.string ⟨#[]⟩] := by kernel_rfl
theorem Tryz.n9 : intTy Tryz.abEnv 9 = some false := by kernel_rfl
theorem Tryz.u10 : Tryz.abEnv.und 10 = some .string := by kernel_rfl
theorem Tryz.a10 : Tryz.abEnv.agg 10 = some false := by kernel_rfl
theorem Tryz.s10 : Tryz.abEnv.sz 10 = some 1 := by kernel_rfl
theorem Tryz.z10 : Tryz.abEnv.zero 10 = some [.string ⟨#[]⟩] := by kernel_rfl
theorem Tryz.n10 : intTy Tryz.abEnv 10 = some false := by kernel_rfl
theorem Tryz.u11 : Tryz.abEnv.und 11 = some .string := by kernel_rfl
theorem Tryz.a11 : Tryz.abEnv.agg 11 = some false := by kernel_rfl
theorem Tryz.s11 : Tryz.abEnv.sz 11 = some 1 := by kernel_rfl
theorem Tryz.z11 : Tryz.abEnv.zero 11 = some [.string ⟨#[]⟩] := by kernel_rfl
theorem Tryz.n11 : intTy Tryz.abEnv 11 = some false := by kernel_rfl
theorem Tryz.u12 : Tryz.abEnv.und 12 = some (.int .u64) := by kernel_rfl
theorem Tryz.a12 : Tryz.abEnv.agg 12 = some false := by kernel_rfl
theorem Tryz.s12 : Tryz.abEnv.sz 12 = some 1 := by kernel_rfl
theorem Tryz.z12 : Tryz.abEnv.zero 12 = some [.int .u64 0] := by kernel_rfl
theorem Tryz.i12 : isStr Tryz.abEnv 12 = true := by kernel_rfl
theorem Tryz.a13 : Tryz.abEnv.agg 13 = some true := by kernel_rfl
theorem Tryz.s13 : Tryz.abEnv.sz 13 = some 2 := by kernel_rfl
theorem Tryz.z13 : Tryz.abEnv.zero 13 = some [.string ⟨#[]⟩, .int .u64 0] := by kernel_rfl
theorem Tryz.i13 : isStr Tryz.abEnv 13 = true := by kernel_rfl
theorem Tryz.n13 : intTy Tryz.abEnv 13 = some false := by kernel_rfl
theorem Tryz.p13 : placesOf Tryz.abEnv 13 = some [(0, 1), (1, 1)] := by kernel_rfl
theorem Tryz.ff13 (b o : Nat) (s : Option Nat) : fieldAddrP Tryz.abEnv 13 (.pointer (some ⟨b, o, s⟩)) 0 = some (.pointer (some ⟨b, o + 0, none⟩)) ∧ fieldAddrP Tryz.abEnv 13 (.pointer (some ⟨b, o, s⟩)) 1 = some (.pointer (some ⟨b, o + 1, none⟩)) := ⟨rfl, rfl⟩
theorem Tryz.d13 (x0 x1 : Value) : fieldP Tryz.abEnv 13 (.agg ⟨[x0, x1]⟩) 0 = some x0 ∧ fieldP Tryz.abEnv 13 (.agg ⟨[x0, x1]⟩) 1 = some x1 := ⟨rfl, rfl⟩
theorem Tryz.a14 : Tryz.abEnv.agg 14 = some true := by kernel_rfl
theorem Tryz.s14 : Tryz.abEnv.sz 14 = some 2 := by kernel_rfl
theorem Tryz.z14 : Tryz.abEnv.zero 14 = some [.string ⟨#[]⟩, .int .u64 0] := by kernel_rfl
theorem Tryz.i14 : isStr Tryz.abEnv 14 = true := by kernel_rfl
theorem Tryz.n14 : intTy Tryz.abEnv 14 = some false := by kernel_rfl
theorem Tryz.p14 : placesOf Tryz.abEnv 14 = some [(0, 1), (1, 1)] := by kernel_rfl
theorem Tryz.ff14 (b o : Nat) (s : Option Nat) : fieldAddrP Tryz.abEnv 14 (.pointer (some ⟨b, o, s⟩)) 0 = some (.pointer (some ⟨b, o + 0, none⟩)) ∧ fieldAddrP Tryz.abEnv 14 (.pointer (some ⟨b, o, s⟩)) 1 = some (.pointer (some ⟨b, o + 1, none⟩)) := ⟨rfl, rfl⟩
theorem Tryz.d14 (x0 x1 : Value) : fieldP Tryz.abEnv 14 (.agg ⟨[x0, x1]⟩) 0 = some x0 ∧ fieldP Tryz.abEnv 14 (.agg ⟨[x0, x1]⟩) 1 = some x1 := ⟨rfl, rfl⟩
theorem Tryz.u15 : Tryz.abEnv.und 15 = some (.pointer 276) := by kernel_rfl
theorem Tryz.a15 : Tryz.abEnv.agg 15 = some false := by kernel_rfl
theorem Tryz.s15 : Tryz.abEnv.sz 15 = some 1 := by kernel_rfl
theorem Tryz.z15 : Tryz.abEnv.zero 15 = some [.pointer none] := by kernel_rfl
theorem Tryz.q15 : isPtr Tryz.abEnv 15 = true := by kernel_rfl
theorem Tryz.i15 : isStr Tryz.abEnv 15 = true := by kernel_rfl
theorem Tryz.n15 : intTy Tryz.abEnv 15 = some false := by kernel_rfl
theorem Tryz.u16 : Tryz.abEnv.und 16 = some (.pointer 279) := by kernel_rfl
theorem Tryz.a16 : Tryz.abEnv.agg 16 = some false := by kernel_rfl
theorem Tryz.s16 : Tryz.abEnv.sz 16 = some 1 := by kernel_rfl
theorem Tryz.z16 : Tryz.abEnv.zero 16 = some [.pointer none] := by kernel_rfl
theorem Tryz.q16 : isPtr Tryz.abEnv 16 = true := by kernel_rfl
theorem Tryz.i16 : isStr Tryz.abEnv 16 = true := by kernel_rfl
theorem Tryz.n16 : intTy Tryz.abEnv 16 = some false := by kernel_rfl
theorem Tryz.u17 : Tryz.abEnv.und 17 = some (.pointer 286) := by kernel_rfl
theorem Tryz.a17 : Tryz.abEnv.agg 17 = some false := by kernel_rfl
theorem Tryz.s17 : Tryz.abEnv.sz 17 = some 1 := by kernel_rfl
theorem Tryz.z17 : Tryz.abEnv.zero 17 = some [.pointer none] := by kernel_rfl
theorem Tryz.q17 : isPtr Tryz.abEnv 17 = true := by kernel_rfl
theorem Tryz.i17 : isStr Tryz.abEnv 17 = true := by kernel_rfl
theorem Tryz.n17 : intTy Tryz.abEnv 17 = some false := by kernel_rfl
theorem Tryz.a18 : Tryz.abEnv.agg 18 = some true := by kernel_rfl
theorem Tryz.s18 : Tryz.abEnv.sz 18 = some 1 := by kernel_rfl
theorem Tryz.z18 : Tryz.abEnv.zero 18 = some [.pointer none] := by kernel_rfl
theorem Tryz.i18 : isStr Tryz.abEnv 18 = true := by kernel_rfl
theorem Tryz.n18 : intTy Tryz.abEnv 18 = some false := by kernel_rfl
theorem Tryz.p18 : placesOf Tryz.abEnv 18 = some [(0, 1)] := by kernel_rfl
theorem Tryz.ff18 (b o : Nat) (s : Option Nat) : fieldAddrP Tryz.abEnv 18 (.pointer (some ⟨b, o, s⟩)) 0 = some (.pointer (some ⟨b, o + 0, none⟩)) := rfl
theorem Tryz.d18 (x0 : Value) : fieldP Tryz.abEnv 18 (.agg ⟨[x0]⟩) 0 = some x0 := rfl
theorem Tryz.a19 : Tryz.abEnv.agg 19 = some true := by kernel_rfl
theorem Tryz.s19 : Tryz.abEnv.sz 19 = some 1 := by kernel_rfl
theorem Tryz.z19 : Tryz.abEnv.zero 19 = some [.pointer none] := by kernel_rfl
theorem Tryz.i19 : isStr Tryz.abEnv 19 = true := by kernel_rfl
theorem Tryz.n19 : intTy Tryz.abEnv 19 = some false := by kernel_rfl
theorem Tryz.p19 : placesOf Tryz.abEnv 19 = some [(0, 1)] := by kernel_rfl
theorem Tryz.ff19 (b o : Nat) (s : Option Nat) : fieldAddrP Tryz.abEnv 19 (.pointer (some ⟨b, o, s⟩)) 0 = some (.pointer (some ⟨b, o + 0, none⟩)) := rfl
theorem Tryz.d19 (x0 : Value) : fieldP Tryz.abEnv 19 (.agg ⟨[x0]⟩) 0 = some x0 := rfl
theorem Tryz.a20 : Tryz.abEnv.agg 20 = some false := by kernel_rfl
theorem Tryz.s20 : Tryz.abEnv.sz 20 = some 1 := by kernel_rfl
theorem Tryz.z20 : Tryz.abEnv.zero 20 = some [.nilIface] := by kernel_rfl
theorem Tryz.q20 : isIface Tryz.abEnv 20 = true := by kernel_rfl
theorem Tryz.n20 : intTy Tryz.abEnv 20 = some false := by kernel_rfl
theorem Tryz.u21 : Tryz.abEnv.und 21 = some (.int .i32) := by kernel_rfl
theorem Tryz.a21 : Tryz.abEnv.agg 21 = some false := by kernel_rfl
theorem Tryz.s21 : Tryz.abEnv.sz 21 = some 1 := by kernel_rfl
theorem Tryz.z21 : Tryz.abEnv.zero 21 = some [.int .i32 0] := by kernel_rfl
theorem Tryz.i21 : isStr Tryz.abEnv 21 = true := by kernel_rfl
theorem Tryz.u159 : Tryz.abEnv.und 159 = some (.pointer 5) := by kernel_rfl
theorem Tryz.a159 : Tryz.abEnv.agg 159 = some false := by kernel_rfl
theorem Tryz.s159 : Tryz.abEnv.sz 159 = some 1 := by kernel_rfl
theorem Tryz.z159 : Tryz.abEnv.zero 159 = some [.pointer none] := by kernel_rfl
theorem Tryz.q159 : isPtr Tryz.abEnv 159 = true := by kernel_rfl
theorem Tryz.i159 : isStr Tryz.abEnv 159 = true := by kernel_rfl
theorem Tryz.n159 : intTy Tryz.abEnv 159 = some false := by kernel_rfl
theorem Tryz.u237 : Tryz.abEnv.und 237 = some (.int .u8) := by kernel_rfl
theorem Tryz.a237 : Tryz.abEnv.agg 237 = some false := by kernel_rfl
theorem Tryz.s237 : Tryz.abEnv.sz 237 = some 1 := by kernel_rfl
theorem Tryz.z237 : Tryz.abEnv.zero 237 = some [.int .u8 0] := by kernel_rfl
theorem Tryz.i237 : isStr Tryz.abEnv 237 = true := by kernel_rfl
theorem Tryz.u247 : Tryz.abEnv.und 247 = some (.int .u32) := by kernel_rfl
theorem Tryz.a247 : Tryz.abEnv.agg 247 = some false := by kernel_rfl
theorem Tryz.s247 : Tryz.abEnv.sz 247 = some 1 := by kernel_rfl
theorem Tryz.z247 : Tryz.abEnv.zero 247 = some [.int .u32 0] := by kernel_rfl
theorem Tryz.i247 : isStr Tryz.abEnv 247 = true := by kernel_rfl
theorem Tryz.a276 : Tryz.abEnv.agg 276 = some true := by kernel_rfl
theorem Tryz.s276 : Tryz.abEnv.sz 276 = some 4 := by kernel_rfl
theorem Tryz.z276 : Tryz.abEnv.zero 276 = some [.pointer none, .pointer none, .pointer none, .string ⟨#[]⟩] := by kernel_rfl
theorem Tryz.i276 : isStr Tryz.abEnv 276 = true := by kernel_rfl
theorem Tryz.n276 : intTy Tryz.abEnv 276 = some false := by kernel_rfl
theorem Tryz.p276 : placesOf Tryz.abEnv 276 = some [(0, 1), (1, 1), (2, 1), (3, 1)] := by kernel_rfl
theorem Tryz.ff276 (b o : Nat) (s : Option Nat) : fieldAddrP Tryz.abEnv 276 (.pointer (some ⟨b, o, s⟩)) 0 = some (.pointer (some ⟨b, o + 0, none⟩)) ∧ fieldAddrP Tryz.abEnv 276 (.pointer (some ⟨b, o, s⟩)) 1 = some (.pointer (some ⟨b, o + 1, none⟩)) ∧ fieldAddrP Tryz.abEnv 276 (.pointer (some ⟨b, o, s⟩)) 2 = some (.pointer (some ⟨b, o + 2, none⟩)) ∧ fieldAddrP Tryz.abEnv 276 (.pointer (some ⟨b, o, s⟩)) 3 = some (.pointer (some ⟨b, o + 3, none⟩)) := ⟨rfl, rfl, rfl, rfl⟩
theorem Tryz.d276 (x0 x1 x2 x3 : Value) : fieldP Tryz.abEnv 276 (.agg ⟨[x0, x1, x2, x3]⟩) 0 = some x0 ∧ fieldP Tryz.abEnv 276 (.agg ⟨[x0, x1, x2, x3]⟩) 1 = some x1 ∧ fieldP Tryz.abEnv 276 (.agg ⟨[x0, x1, x2, x3]⟩) 2 = some x2 ∧ fieldP Tryz.abEnv 276 (.agg ⟨[x0, x1, x2, x3]⟩) 3 = some x3 := ⟨rfl, rfl, rfl, rfl⟩
theorem Tryz.u277 : Tryz.abEnv.und 277 = some (.array 0 16) := by kernel_rfl
theorem Tryz.a277 : Tryz.abEnv.agg 277 = some true := by kernel_rfl
theorem Tryz.s277 : Tryz.abEnv.sz 277 = some 0 := by kernel_rfl
theorem Tryz.z277 : Tryz.abEnv.zero 277 = some [] := by kernel_rfl
theorem Tryz.n277 : intTy Tryz.abEnv 277 = some false := by kernel_rfl
theorem Tryz.a279 : Tryz.abEnv.agg 279 = some true := by kernel_rfl
theorem Tryz.s279 : Tryz.abEnv.sz 279 = some 0 := by kernel_rfl
theorem Tryz.z279 : Tryz.abEnv.zero 279 = some [] := by kernel_rfl
theorem Tryz.i279 : isStr Tryz.abEnv 279 = true := by kernel_rfl
theorem Tryz.n279 : intTy Tryz.abEnv 279 = some false := by kernel_rfl
theorem Tryz.u281 : Tryz.abEnv.und 281 = some (.int .u8) := by kernel_rfl
theorem Tryz.a281 : Tryz.abEnv.agg 281 = some false := by kernel_rfl
theorem Tryz.s281 : Tryz.abEnv.sz 281 = some 1 := by kernel_rfl
theorem Tryz.z281 : Tryz.abEnv.zero 281 = some [.int .u8 0] := by kernel_rfl
theorem Tryz.i281 : isStr Tryz.abEnv 281 = true := by kernel_rfl
theorem Tryz.a282 : Tryz.abEnv.agg 282 = some false := by kernel_rfl
theorem Tryz.s282 : Tryz.abEnv.sz 282 = some 1 := by kernel_rfl
theorem Tryz.z282 : Tryz.abEnv.zero 282 = some [.nilFunc] := by kernel_rfl
theorem Tryz.n282 : intTy Tryz.abEnv 282 = some false := by kernel_rfl
theorem Tryz.u283 : Tryz.abEnv.und 283 = some (.int .i32) := by kernel_rfl
theorem Tryz.a283 : Tryz.abEnv.agg 283 = some false := by kernel_rfl
theorem Tryz.s283 : Tryz.abEnv.sz 283 = some 1 := by kernel_rfl
theorem Tryz.z283 : Tryz.abEnv.zero 283 = some [.int .i32 0] := by kernel_rfl
theorem Tryz.i283 : isStr Tryz.abEnv 283 = true := by kernel_rfl
theorem Tryz.u284 : Tryz.abEnv.und 284 = some (.int .i32) := by kernel_rfl
theorem Tryz.a284 : Tryz.abEnv.agg 284 = some false := by kernel_rfl
theorem Tryz.s284 : Tryz.abEnv.sz 284 = some 1 := by kernel_rfl
theorem Tryz.z284 : Tryz.abEnv.zero 284 = some [.int .i32 0] := by kernel_rfl
theorem Tryz.i284 : isStr Tryz.abEnv 284 = true := by kernel_rfl
theorem Tryz.a286 : Tryz.abEnv.agg 286 = some true := by kernel_rfl
theorem Tryz.s286 : Tryz.abEnv.sz 286 = some 11 := by kernel_rfl
theorem Tryz.z286 : Tryz.abEnv.zero 286 = some [.int .u64 0, .int .u64 0, .int .u32 0, .int .u8 0, .int .u8 0, .int .u8 0, .int .u8 0, .nilFunc, .pointer none, .int .i32 0, .int .i32 0] := by kernel_rfl
theorem Tryz.i286 : isStr Tryz.abEnv 286 = true := by kernel_rfl
theorem Tryz.n286 : intTy Tryz.abEnv 286 = some false := by kernel_rfl
theorem Tryz.p286 : placesOf Tryz.abEnv 286 = some [(0, 1), (1, 1), (2, 1), (3, 1), (4, 1), (5, 1), (6, 1), (7, 1), (8, 1), (9, 1), (10, 1)] := by kernel_rfl
theorem Tryz.ff286 (b o : Nat) (s : Option Nat) : fieldAddrP Tryz.abEnv 286 (.pointer (some ⟨b, o, s⟩)) 0 = some (.pointer (some ⟨b, o + 0, none⟩)) ∧ fieldAddrP Tryz.abEnv 286 (.pointer (some ⟨b, o, s⟩)) 1 = some (.pointer (some ⟨b, o + 1, none⟩)) ∧ fieldAddrP Tryz.abEnv 286 (.pointer (some ⟨b, o, s⟩)) 2 = some (.pointer (some ⟨b, o + 2, none⟩)) ∧ fieldAddrP Tryz.abEnv 286 (.pointer (some ⟨b, o, s⟩)) 3 = some (.pointer (some ⟨b, o + 3, none⟩)) ∧ fieldAddrP Tryz.abEnv 286 (.pointer (some ⟨b, o, s⟩)) 4 = some (.pointer (some ⟨b, o + 4, none⟩)) ∧ fieldAddrP Tryz.abEnv 286 (.pointer (some ⟨b, o, s⟩)) 5 = some (.pointer (some ⟨b, o + 5, none⟩)) ∧ fieldAddrP Tryz.abEnv 286 (.pointer (some ⟨b, o, s⟩)) 6 = some (.pointer (some ⟨b, o + 6, none⟩)) ∧ fieldAddrP Tryz.abEnv 286 (.pointer (some ⟨b, o, s⟩)) 7 = some (.pointer (some ⟨b, o + 7, none⟩)) ∧ fieldAddrP Tryz.abEnv 286 (.pointer (some ⟨b, o, s⟩)) 8 = some (.pointer (some ⟨b, o + 8, none⟩)) ∧ fieldAddrP Tryz.abEnv 286 (.pointer (some ⟨b, o, s⟩)) 9 = some (.pointer (some ⟨b, o + 9, none⟩)) ∧ fieldAddrP Tryz.abEnv 286 (.pointer (some ⟨b, o, s⟩)) 10 = some (.pointer (some ⟨b, o + 10, none⟩)) := ⟨rfl, rfl, rfl, rfl, rfl, rfl, rfl, rfl, rfl, rfl, rfl⟩
theorem Tryz.d286 (x0 x1 x2 x3 x4 x5 x6 x7 x8 x9 x10 : Value) : fieldP Tryz.abEnv 286 (.agg ⟨[x0, x1, x2, x3, x4, x5, x6, x7, x8, x9, x10]⟩) 0 = some x0 ∧ fieldP Tryz.abEnv 286 (.agg ⟨[x0, x1, x2, x3, x4, x5, x6, x7, x8, x9, x10]⟩) 1 = some x1 ∧ fieldP Tryz.abEnv 286 (.agg ⟨[x0, x1, x2, x3, x4, x5, x6, x7, x8, x9, x10]⟩) 2 = some x2 ∧ fieldP Tryz.abEnv 286 (.agg ⟨[x0, x1, x2, x3, x4, x5, x6, x7, x8, x9, x10]⟩) 3 = some x3 ∧ fieldP Tryz.abEnv 286 (.agg ⟨[x0, x1, x2, x3, x4, x5, x6, x7, x8, x9, x10]⟩) 4 = some x4 ∧ fieldP Tryz.abEnv 286 (.agg ⟨[x0, x1, x2, x3, x4, x5, x6, x7, x8, x9, x10]⟩) 5 = some x5 ∧ fieldP Tryz.abEnv 286 (.agg ⟨[x0, x1, x2, x3, x4, x5, x6, x7, x8, x9, x10]⟩) 6 = some x6 ∧ fieldP Tryz.abEnv 286 (.agg ⟨[x0, x1, x2, x3, x4, x5, x6, x7, x8, x9, x10]⟩) 7 = some x7 ∧ fieldP Tryz.abEnv 286 (.agg ⟨[x0, x1, x2, x3, x4, x5, x6, x7, x8, x9, x10]⟩) 8 = some x8 ∧ fieldP Tryz.abEnv 286 (.agg ⟨[x0, x1, x2, x3, x4, x5, x6, x7, x8, x9, x10]⟩) 9 = some x9 ∧ fieldP Tryz.abEnv 286 (.agg ⟨[x0, x1, x2, x3, x4, x5, x6, x7, x8, x9, x10]⟩) 10 = some x10 := ⟨rfl, rfl, rfl, rfl, rfl, rfl, rfl, rfl, rfl, rfl, rfl⟩
theorem Tryz.a23 : Tryz.abEnv.agg 23 = some true := by kernel_rfl
theorem Tryz.s23 : Tryz.abEnv.sz 23 = some 2 := by kernel_rfl
theorem Tryz.z23 : Tryz.abEnv.zero 23 = some [.slice none 0 0, .slice none 0 0] := by kernel_rfl
theorem Tryz.i23 : isStr Tryz.abEnv 23 = true := by kernel_rfl
theorem Tryz.n23 : intTy Tryz.abEnv 23 = some false := by kernel_rfl
theorem Tryz.p23 : placesOf Tryz.abEnv 23 = some [(0, 1), (1, 1)] := by kernel_rfl
theorem Tryz.ff23 (b o : Nat) (s : Option Nat) : fieldAddrP Tryz.abEnv 23 (.pointer (some ⟨b, o, s⟩)) 0 = some (.pointer (some ⟨b, o + 0, none⟩)) ∧ fieldAddrP Tryz.abEnv 23 (.pointer (some ⟨b, o, s⟩)) 1 = some (.pointer (some ⟨b, o + 1, none⟩)) := ⟨rfl, rfl⟩
theorem Tryz.d23 (x0 x1 : Value) : fieldP Tryz.abEnv 23 (.agg ⟨[x0, x1]⟩) 0 = some x0 ∧ fieldP Tryz.abEnv 23 (.agg ⟨[x0, x1]⟩) 1 = some x1 := ⟨rfl, rfl⟩
theorem Tryz.u82 : Tryz.abEnv.und 82 = some (.pointer 84) := by kernel_rfl
theorem Tryz.a82 : Tryz.abEnv.agg 82 = some false := by kernel_rfl
theorem Tryz.s82 : Tryz.abEnv.sz 82 = some 1 := by kernel_rfl
theorem Tryz.z82 : Tryz.abEnv.zero 82 = some [.pointer none] := by kernel_rfl
theorem Tryz.q82 : isPtr Tryz.abEnv 82 = true := by kernel_rfl
theorem Tryz.i82 : isStr Tryz.abEnv 82 = true := by kernel_rfl
theorem Tryz.n82 : intTy Tryz.abEnv 82 = some false := by kernel_rfl
theorem Tryz.a84 : Tryz.abEnv.agg 84 = some true := by kernel_rfl
theorem Tryz.s84 : Tryz.abEnv.sz 84 = some 2 := by kernel_rfl
theorem Tryz.z84 : Tryz.abEnv.zero 84 = some [.slice none 0 0, .int .i64 0] := by kernel_rfl
theorem Tryz.i84 : isStr Tryz.abEnv 84 = true := by kernel_rfl
theorem Tryz.n84 : intTy Tryz.abEnv 84 = some false := by kernel_rfl
theorem Tryz.p84 : placesOf Tryz.abEnv 84 = some [(0, 1), (1, 1)] := by kernel_rfl
theorem Tryz.ff84 (b o : Nat) (s : Option Nat) : fieldAddrP Tryz.abEnv 84 (.pointer (some ⟨b, o, s⟩)) 0 = some (.pointer (some ⟨b, o + 0, none⟩)) ∧ fieldAddrP Tryz.abEnv 84 (.pointer (some ⟨b, o, s⟩)) 1 = some (.pointer (some ⟨b, o + 1, none⟩)) := ⟨rfl, rfl⟩
theorem Tryz.d84 (x0 x1 : Value) : fieldP Tryz.abEnv 84 (.agg ⟨[x0, x1]⟩) 0 = some x0 ∧ fieldP Tryz.abEnv 84 (.agg ⟨[x0, x1]⟩) 1 = some x1 := ⟨rfl, rfl⟩
theorem Tryz.a87 : Tryz.abEnv.agg 87 = some false := by kernel_rfl
theorem Tryz.s87 : Tryz.abEnv.sz 87 = some 1 := by kernel_rfl
theorem Tryz.z87 : Tryz.abEnv.zero 87 = some [.nilIface] := by kernel_rfl
theorem Tryz.q87 : isIface Tryz.abEnv 87 = true := by kernel_rfl
theorem Tryz.n87 : intTy Tryz.abEnv 87 = some false := by kernel_rfl
theorem Tryz.e9 : Tryz.abEnv.fn 9 = some Tryz.f9 := by kernel_rfl
theorem Tryz.u91 : Tryz.abEnv.und 91 = some (.slice 4) := by kernel_rfl
theorem Tryz.a91 : Tryz.abEnv.agg 91 = some false := by kernel_rfl
theorem Tryz.s91 : Tryz.abEnv.sz 91 = some 1 := by kernel_rfl
theorem Tryz.z91 : Tryz.abEnv.zero 91 = some [.slice none 0 0] := by kernel_rfl
theorem Tryz.q91 : isSl Tryz.abEnv 91 = true := by kernel_rfl
theorem Tryz.n91 : intTy Tryz.abEnv 91 = some false := by kernel_rfl
theorem Tryz.e11 : Tryz.abEnv.fn 11 = some Tryz.f11 := by kernel_rfl
theorem Tryz.e12 : Tryz.abEnv.fn 12 = some Tryz.f12 := by kernel_rfl
theorem Tryz.e13 : Tryz.abEnv.fn 13 = some Tryz.f13 := by kernel_rfl
theorem Tryz.e14 : Tryz.abEnv.fn 14 = some Tryz.f14 := by kernel_rfl
theorem Tryz.e15 : Tryz.abEnv.fn 15 = some Tryz.f15 := by kernel_rfl
theorem Tryz.a103 : Tryz.abEnv.agg 103 = some false := by kernel_rfl
theorem Tryz.s103 : Tryz.abEnv.sz 103 = some 1 := by kernel_rfl
theorem Tryz.z103 : Tryz.abEnv.zero 103 = some [.nilFunc] := by kernel_rfl
theorem Tryz.n103 : intTy Tryz.abEnv 103 = some false := by kernel_rfl
theorem Tryz.e16 : Tryz.abEnv.fn 16 = some Tryz.f16 := by kernel_rfl
theorem Tryz.a124 : Tryz.abEnv.agg 124 = some false := by kernel_rfl
theorem Tryz.s124 : Tryz.abEnv.sz 124 = some 1 := by kernel_rfl
theorem Tryz.z124 : Tryz.abEnv.zero 124 = some [.nilFunc] := by kernel_rfl
theorem Tryz.n124 : intTy Tryz.abEnv 124 = some false := by kernel_rfl
theorem Tryz.e39 : Tryz.abEnv.fn 39 = some Tryz.f39 := by kernel_rfl
theorem Tryz.u140 : Tryz.abEnv.und 140 = some (.int .i64) := by kernel_rfl
theorem Tryz.a140 : Tryz.abEnv.agg 140 = some false := by kernel_rfl
theorem Tryz.s140 : Tryz.abEnv.sz 140 = some 1 := by kernel_rfl
theorem Tryz.z140 : Tryz.abEnv.zero 140 = some [.int .i64 0] := by kernel_rfl
theorem Tryz.i140 : isStr Tryz.abEnv 140 = true := by kernel_rfl
theorem Tryz.a142 : Tryz.abEnv.agg 142 = some true := by kernel_rfl
theorem Tryz.s142 : Tryz.abEnv.sz 142 = some 4 := by kernel_rfl
theorem Tryz.z142 : Tryz.abEnv.zero 142 = some [.int .i64 0, .int .i64 0, .int .i64 0, .int .i64 0] := by kernel_rfl
theorem Tryz.i142 : isStr Tryz.abEnv 142 = true := by kernel_rfl
theorem Tryz.n142 : intTy Tryz.abEnv 142 = some false := by kernel_rfl
theorem Tryz.p142 : placesOf Tryz.abEnv 142 = some [(0, 1), (1, 1), (2, 1), (3, 1)] := by kernel_rfl
theorem Tryz.ff142 (b o : Nat) (s : Option Nat) : fieldAddrP Tryz.abEnv 142 (.pointer (some ⟨b, o, s⟩)) 0 = some (.pointer (some ⟨b, o + 0, none⟩)) ∧ fieldAddrP Tryz.abEnv 142 (.pointer (some ⟨b, o, s⟩)) 1 = some (.pointer (some ⟨b, o + 1, none⟩)) ∧ fieldAddrP Tryz.abEnv 142 (.pointer (some ⟨b, o, s⟩)) 2 = some (.pointer (some ⟨b, o + 2, none⟩)) ∧ fieldAddrP Tryz.abEnv 142 (.pointer (some ⟨b, o, s⟩)) 3 = some (.pointer (some ⟨b, o + 3, none⟩)) := ⟨rfl, rfl, rfl, rfl⟩
theorem Tryz.d142 (x0 x1 x2 x3 : Value) : fieldP Tryz.abEnv 142 (.agg ⟨[x0, x1, x2, x3]⟩) 0 = some x0 ∧ fieldP Tryz.abEnv 142 (.agg ⟨[x0, x1, x2, x3]⟩) 1 = some x1 ∧ fieldP Tryz.abEnv 142 (.agg ⟨[x0, x1, x2, x3]⟩) 2 = some x2 ∧ fieldP Tryz.abEnv 142 (.agg ⟨[x0, x1, x2, x3]⟩) 3 = some x3 := ⟨rfl, rfl, rfl, rfl⟩
theorem Tryz.u144 : Tryz.abEnv.und 144 = some (.pointer 142) := by kernel_rfl
theorem Tryz.a144 : Tryz.abEnv.agg 144 = some false := by kernel_rfl
theorem Tryz.s144 : Tryz.abEnv.sz 144 = some 1 := by kernel_rfl
theorem Tryz.z144 : Tryz.abEnv.zero 144 = some [.pointer none] := by kernel_rfl
theorem Tryz.q144 : isPtr Tryz.abEnv 144 = true := by kernel_rfl
theorem Tryz.i144 : isStr Tryz.abEnv 144 = true := by kernel_rfl
theorem Tryz.n144 : intTy Tryz.abEnv 144 = some false := by kernel_rfl
theorem Tryz.a146 : Tryz.abEnv.agg 146 = some true := by kernel_rfl
theorem Tryz.s146 : Tryz.abEnv.sz 146 = some 1 := by kernel_rfl
theorem Tryz.z146 : Tryz.abEnv.zero 146 = some [.pointer none] := by kernel_rfl
theorem Tryz.i146 : isStr Tryz.abEnv 146 = true := by kernel_rfl
theorem Tryz.n146 : intTy Tryz.abEnv 146 = some false := by kernel_rfl
theorem Tryz.p146 : placesOf Tryz.abEnv 146 = some [(0, 1)] := by kernel_rfl
theorem Tryz.ff146 (b o : Nat) (s : Option Nat) : fieldAddrP Tryz.abEnv 146 (.pointer (some ⟨b, o, s⟩)) 0 = some (.pointer (some ⟨b, o + 0, none⟩)) := rfl
theorem Tryz.d146 (x0 : Value) : fieldP Tryz.abEnv 146 (.agg ⟨[x0]⟩) 0 = some x0 := rfl
theorem Tryz.e40 : Tryz.abEnv.fn 40 = some Tryz.f40 := by kernel_rfl
theorem Tryz.a137 : Tryz.abEnv.agg 137 = some false := by kernel_rfl
theorem Tryz.s137 : Tryz.abEnv.sz 137 = some 1 := by kernel_rfl
theorem Tryz.z137 : Tryz.abEnv.zero 137 = some [.nilFunc] := by kernel_rfl
theorem Tryz.n137 : intTy Tryz.abEnv 137 = some false := by kernel_rfl
theorem Tryz.e41 : Tryz.abEnv.fn 41 = some Tryz.f41 := by kernel_rfl
theorem Tryz.e45 : Tryz.abEnv.fn 45 = some Tryz.f45 := by kernel_rfl
theorem Tryz.e46 : Tryz.abEnv.fn 46 = some Tryz.f46 := by kernel_rfl
theorem Tryz.e47 : Tryz.abEnv.fn 47 = some Tryz.f47 := by kernel_rfl
theorem Tryz.e48 : Tryz.abEnv.fn 48 = some Tryz.f48 := by kernel_rfl
theorem Tryz.e49 : Tryz.abEnv.fn 49 = some Tryz.f49 := by kernel_rfl
theorem Tryz.e50 : Tryz.abEnv.fn 50 = some Tryz.f50 := by kernel_rfl
theorem Tryz.e51 : Tryz.abEnv.fn 51 = some Tryz.f51 := by kernel_rfl
theorem Tryz.e52 : Tryz.abEnv.fn 52 = some Tryz.f52 := by kernel_rfl
theorem Tryz.u161 : Tryz.abEnv.und 161 = some (.map 3 3) := by kernel_rfl
theorem Tryz.a161 : Tryz.abEnv.agg 161 = some false := by kernel_rfl
theorem Tryz.s161 : Tryz.abEnv.sz 161 = some 1 := by kernel_rfl
theorem Tryz.z161 : Tryz.abEnv.zero 161 = some [.map none] := by kernel_rfl
theorem Tryz.n161 : intTy Tryz.abEnv 161 = some false := by kernel_rfl
theorem Tryz.e56 : Tryz.abEnv.fn 56 = some Tryz.f56 := by kernel_rfl
theorem Tryz.e92 : Tryz.abEnv.fn 92 = some Tryz.f92 := by kernel_rfl
theorem Tryz.e93 : Tryz.abEnv.fn 93 = some Tryz.f93 := by kernel_rfl
theorem Tryz.e94 : Tryz.abEnv.fn 94 = some Tryz.f94 := by kernel_rfl
theorem Tryz.a195 : Tryz.abEnv.agg 195 = some false := by kernel_rfl
theorem Tryz.s195 : Tryz.abEnv.sz 195 = some 1 := by kernel_rfl
theorem Tryz.z195 : Tryz.abEnv.zero 195 = some [.nilFunc] := by kernel_rfl
theorem Tryz.n195 : intTy Tryz.abEnv 195 = some false := by kernel_rfl
theorem Tryz.e96 : Tryz.abEnv.fn 96 = some Tryz.f96 := by kernel_rfl
theorem Tryz.e97 : Tryz.abEnv.fn 97 = some Tryz.f97 := by kernel_rfl
theorem Tryz.e98 : Tryz.abEnv.fn 98 = some Tryz.f98 := by kernel_rfl
theorem Tryz.e99 : Tryz.abEnv.fn 99 = some Tryz.f99 := by kernel_rfl
theorem Tryz.e114 : Tryz.abEnv.fn 114 = some Tryz.f114 := by kernel_rfl
theorem Tryz.a189 : Tryz.abEnv.agg 189 = some true := by kernel_rfl
theorem Tryz.s189 : Tryz.abEnv.sz 189 = some 1 := by kernel_rfl
theorem Tryz.z189 : Tryz.abEnv.zero 189 = some [.pointer none] := by kernel_rfl
theorem Tryz.i189 : isStr Tryz.abEnv 189 = true := by kernel_rfl
theorem Tryz.n189 : intTy Tryz.abEnv 189 = some false := by kernel_rfl
theorem Tryz.p189 : placesOf Tryz.abEnv 189 = some [(0, 1)] := by kernel_rfl
theorem Tryz.ff189 (b o : Nat) (s : Option Nat) : fieldAddrP Tryz.abEnv 189 (.pointer (some ⟨b, o, s⟩)) 0 = some (.pointer (some ⟨b, o + 0, none⟩)) := rfl
theorem Tryz.d189 (x0 : Value) : fieldP Tryz.abEnv 189 (.agg ⟨[x0]⟩) 0 = some x0 := rfl
theorem Tryz.e132 : Tryz.abEnv.fn 132 = some Tryz.f132 := by kernel_rfl
theorem Tryz.a222 : Tryz.abEnv.agg 222 = some false := by kernel_rfl
theorem Tryz.s222 : Tryz.abEnv.sz 222 = some 1 := by kernel_rfl
theorem Tryz.z222 : Tryz.abEnv.zero 222 = some [.nilFunc] := by kernel_rfl
theorem Tryz.n222 : intTy Tryz.abEnv 222 = some false := by kernel_rfl
theorem Tryz.a224 : Tryz.abEnv.agg 224 = some false := by kernel_rfl
theorem Tryz.s224 : Tryz.abEnv.sz 224 = some 1 := by kernel_rfl
theorem Tryz.z224 : Tryz.abEnv.zero 224 = some [.nilFunc] := by kernel_rfl
theorem Tryz.n224 : intTy Tryz.abEnv 224 = some false := by kernel_rfl
theorem Tryz.e224E : ElemIs Tryz.abEnv 224 8 1 [.nilFunc] := ⟨⟨_, rfl, by kernel_rfl, by kernel_rfl⟩, Tryz.z224, rfl⟩
theorem Tryz.u226 : Tryz.abEnv.und 226 = some (.slice 224) := by kernel_rfl
theorem Tryz.a226 : Tryz.abEnv.agg 226 = some false := by kernel_rfl
theorem Tryz.s226 : Tryz.abEnv.sz 226 = some 1 := by kernel_rfl
theorem Tryz.z226 : Tryz.abEnv.zero 226 = some [.slice none 0 0] := by kernel_rfl
theorem Tryz.q226 : isSl Tryz.abEnv 226 = true := by kernel_rfl
theorem Tryz.n226 : intTy Tryz.abEnv 226 = some false := by kernel_rfl
theorem Tryz.a228 : Tryz.abEnv.agg 228 = some true := by kernel_rfl
theorem Tryz.s228 : Tryz.abEnv.sz 228 = some 6 := by kernel_rfl
theorem Tryz.z228 : Tryz.abEnv.zero 228 = some [.int .i64 0, .int .i64 0, .int .i64 0, .int .i64 0, .int .i64 0, .int .i64 0] := by kernel_rfl
theorem Tryz.i228 : isStr Tryz.abEnv 228 = true := by kernel_rfl
theorem Tryz.n228 : intTy Tryz.abEnv 228 = some false := by kernel_rfl
theorem Tryz.p228 : placesOf Tryz.abEnv 228 = some [(0, 1), (1, 1), (2, 1), (3, 1), (4, 1), (5, 1)] := by kernel_rfl
theorem Tryz.ff228 (b o : Nat) (s : Option Nat) : fieldAddrP Tryz.abEnv 228 (.pointer (some ⟨b, o, s⟩)) 0 = some (.pointer (some ⟨b, o + 0, none⟩)) ∧ fieldAddrP Tryz.abEnv 228 (.pointer (some ⟨b, o, s⟩)) 1 = some (.pointer (some ⟨b, o + 1, none⟩)) ∧ fieldAddrP Tryz.abEnv 228 (.pointer (some ⟨b, o, s⟩)) 2 = some (.pointer (some ⟨b, o + 2, none⟩)) ∧ fieldAddrP Tryz.abEnv 228 (.pointer (some ⟨b, o, s⟩)) 3 = some (.pointer (some ⟨b, o + 3, none⟩)) ∧ fieldAddrP Tryz.abEnv 228 (.pointer (some ⟨b, o, s⟩)) 4 = some (.pointer (some ⟨b, o + 4, none⟩)) ∧ fieldAddrP Tryz.abEnv 228 (.pointer (some ⟨b, o, s⟩)) 5 = some (.pointer (some ⟨b, o + 5, none⟩)) := ⟨rfl, rfl, rfl, rfl, rfl, rfl⟩
theorem Tryz.d228 (x0 x1 x2 x3 x4 x5 : Value) : fieldP Tryz.abEnv 228 (.agg ⟨[x0, x1, x2, x3, x4, x5]⟩) 0 = some x0 ∧ fieldP Tryz.abEnv 228 (.agg ⟨[x0, x1, x2, x3, x4, x5]⟩) 1 = some x1 ∧ fieldP Tryz.abEnv 228 (.agg ⟨[x0, x1, x2, x3, x4, x5]⟩) 2 = some x2 ∧ fieldP Tryz.abEnv 228 (.agg ⟨[x0, x1, x2, x3, x4, x5]⟩) 3 = some x3 ∧ fieldP Tryz.abEnv 228 (.agg ⟨[x0, x1, x2, x3, x4, x5]⟩) 4 = some x4 ∧ fieldP Tryz.abEnv 228 (.agg ⟨[x0, x1, x2, x3, x4, x5]⟩) 5 = some x5 := ⟨rfl, rfl, rfl, rfl, rfl, rfl⟩
theorem Tryz.e228E : ElemIs Tryz.abEnv 228 48 6 [.int .i64 0, .int .i64 0, .int .i64 0, .int .i64 0, .int .i64 0, .int .i64 0] := ⟨⟨_, rfl, by kernel_rfl, by kernel_rfl⟩, Tryz.z228, rfl⟩
theorem Tryz.e133 : Tryz.abEnv.fn 133 = some Tryz.f133 := by kernel_rfl
theorem Tryz.e135 : Tryz.abEnv.fn 135 = some Tryz.f135 := by kernel_rfl
theorem Tryz.e136 : Tryz.abEnv.fn 136 = some Tryz.f136 := by kernel_rfl
theorem Tryz.e137 : Tryz.abEnv.fn 137 = some Tryz.f137 := by kernel_rfl
theorem Tryz.e138 : Tryz.abEnv.fn 138 = some Tryz.f138 := by kernel_rfl
theorem Tryz.e139 : Tryz.abEnv.fn 139 = some Tryz.f139 := by kernel_rfl
theorem Tryz.e161 : Tryz.abEnv.fn 161 = some Tryz.f161 := by kernel_rfl
theorem Tryz.u257 : Tryz.abEnv.und 257 = some (.slice 228) := by kernel_rfl
theorem Tryz.a257 : Tryz.abEnv.agg 257 = some false := by kernel_rfl
theorem Tryz.s257 : Tryz.abEnv.sz 257 = some 1 := by kernel_rfl
theorem Tryz.z257 : Tryz.abEnv.zero 257 = some [.slice none 0 0] := by kernel_rfl
theorem Tryz.q257 : isSl Tryz.abEnv 257 = true := by kernel_rfl
theorem Tryz.n257 : intTy Tryz.abEnv 257 = some false := by kernel_rfl
theorem Tryz.e162 : Tryz.abEnv.fn 162 = some Tryz.f162 := by kernel_rfl
theorem Tryz.e163 : Tryz.abEnv.fn 163 = some Tryz.f163 := by kernel_rfl
theorem Tryz.e164 : Tryz.abEnv.fn 164 = some Tryz.f164 := by kernel_rfl
theorem Tryz.e165 : Tryz.abEnv.fn 165 = some Tryz.f165 := by kernel_rfl
theorem Tryz.a221 : Tryz.abEnv.agg 221 = some false := by kernel_rfl
theorem Tryz.s221 : Tryz.abEnv.sz 221 = some 1 := by kernel_rfl
theorem Tryz.z221 : Tryz.abEnv.zero 221 = some [.nilFunc] := by kernel_rfl
theorem Tryz.n221 : intTy Tryz.abEnv 221 = some false := by kernel_rfl
theorem Tryz.e166 : Tryz.abEnv.fn 166 = some Tryz.f166 := by kernel_rfl
theorem Tryz.e167 : Tryz.abEnv.fn 167 = some Tryz.f167 := by kernel_rfl
theorem Tryz.e168 : Tryz.abEnv.fn 168 = some Tryz.f168 := by kernel_rfl
theorem Tryz.e169 : Tryz.abEnv.fn 169 = some Tryz.f169 := by kernel_rfl
theorem Tryz.e188 : Tryz.abEnv.fn 188 = some Tryz.f188 := by kernel_rfl
theorem Tryz.a258 : Tryz.abEnv.agg 258 = some false := by kernel_rfl
theorem Tryz.s258 : Tryz.abEnv.sz 258 = some 1 := by kernel_rfl
theorem Tryz.z258 : Tryz.abEnv.zero 258 = some [.nilFunc] := by kernel_rfl
theorem Tryz.n258 : intTy Tryz.abEnv 258 = some false := by kernel_rfl
theorem Tryz.e189 : Tryz.abEnv.fn 189 = some Tryz.f189 := by kernel_rfl
theorem Tryz.e190 : Tryz.abEnv.fn 190 = some Tryz.f190 := by kernel_rfl
theorem Tryz.e200 : Tryz.abEnv.fn 200 = some Tryz.f200 := by kernel_rfl
end Go.Ab

end
section
/- graph, run. -/
set_option maxHeartbeats 4000000

set_option linter.unusedVariables false
namespace Go.Ab
open Go.Proofs
set_option maxRecDepth 10000
set_option linter.defProp false
def Tryz.FFt1188 := And.intro Tryz.a1 <| And.intro Tryz.s1 <| And.intro Tryz.z1 <| And.intro Tryz.n1 <| And.intro Tryz.u2 <| And.intro Tryz.a2 <| And.intro Tryz.s2 <| And.intro Tryz.z2 <| And.intro Tryz.i2 <| And.intro Tryz.u3 <| And.intro Tryz.a3 <| And.intro Tryz.s3 <| And.intro Tryz.z3 <| And.intro Tryz.i3 <| And.intro Tryz.u140 <| And.intro Tryz.a140 <| And.intro Tryz.s140 <| And.intro Tryz.z140 <| And.intro Tryz.i140 <| And.intro Tryz.a221 <| And.intro Tryz.s221 <| And.intro Tryz.z221 <| And.intro Tryz.n221 <| And.intro Tryz.a222 <| And.intro Tryz.s222 <| And.intro Tryz.z222 <| And.intro Tryz.n222 <| And.intro Tryz.a228 <| And.intro Tryz.s228 <| And.intro Tryz.z228 <| And.intro Tryz.i228 <| And.intro Tryz.n228 <| And.intro Tryz.p228 <| And.intro Tryz.ff228 <| And.intro Tryz.d228 <| And.intro Tryz.u257 <| And.intro Tryz.a257 <| And.intro Tryz.s257 <| And.intro Tryz.z257 <| And.intro Tryz.q257 <| Tryz.n257
def Tryz.FFt1200 := And.intro Tryz.a1 <| And.intro Tryz.s1 <| And.intro Tryz.z1 <| And.intro Tryz.n1 <| And.intro Tryz.u2 <| And.intro Tryz.a2 <| And.intro Tryz.s2 <| And.intro Tryz.z2 <| And.intro Tryz.i2 <| And.intro Tryz.u3 <| And.intro Tryz.a3 <| And.intro Tryz.s3 <| And.intro Tryz.z3 <| And.intro Tryz.i3 <| And.intro Tryz.u4 <| And.intro Tryz.a4 <| And.intro Tryz.s4 <| And.intro Tryz.z4 <| And.intro Tryz.n4 <| And.intro Tryz.u140 <| And.intro Tryz.a140 <| And.intro Tryz.s140 <| And.intro Tryz.z140 <| And.intro Tryz.i140 <| And.intro Tryz.a228 <| And.intro Tryz.s228 <| And.intro Tryz.z228 <| And.intro Tryz.i228 <| And.intro Tryz.n228 <| And.intro Tryz.p228 <| And.intro Tryz.ff228 <| And.intro Tryz.d228 <| And.intro Tryz.u257 <| And.intro Tryz.a257 <| And.intro Tryz.s257 <| And.intro Tryz.z257 <| And.intro Tryz.q257 <| And.intro Tryz.n257 <| And.intro Tryz.a258 <| And.intro Tryz.s258 <| And.intro Tryz.z258 <| Tryz.n258
theorem values {h0 : Hp} (ok : h0.t.Sized h0.n) {v : Value} (hv : Fl v) : Ret Tryz.abEnv 188 [v] h0 fun r h' => Gr h0 h' ∧ ∃ b, r = .func (.func 200) #[] #[ptrTo b] ∧ h0.n ≤ b ∧ h'.load b 0 1 = some [v] := by
  have S := St.init (M := NoM) ok
  refine enter_ret (n := 4) (rs := [.tmp 2]) rfl Tryz.e188 rfl rfl rfl (Nat.le_of_ble_eq_true rfl) ?_
  simp only [BS, Nat.reduceLT]
  refine step_newS (box_fl (by first | exact fl_int | exact fl_slice | exact fl_ptr | exact fl_bool | exact fl_map | exact fl_func | exact fl_nili | exact fl_iface | exact fl_nilf | exact fl_str | assumption)) S ?_; clear S; intro h b S n_b
  simp only [BS, tupleOf, Nat.reduceLT, Nat.reduceEqDiff, if_true, if_false, List.map_cons, List.map_nil, List.map_toArray, eq_self]
  exact ⟨S.gr, b, rfl, n_b, S.ld m0 rfl⟩
theorem values_iter {h0 : Hp} (ok0 : h0.t.Sized h0.n) {v : Value} {b : Nat} {ps : List Pl} (hb : h0.load b 0 1 = some [v]) (hs : SlAt h0 6 encP v ps) (hlen : ps.length < 1000) :
    Iter Tryz.abEnv 200 [] [ptrTo b] h0 (fun c => c = b ∨ blkOf v c) (ps.map fun p => [.agg ⟨encP p⟩]) := by
  refine iter_mk fun lb J Z Y h F s hj => ?_
  refine enter (n := 16) (rs := []) rfl Tryz.e200 rfl rfl rfl (Nat.le_of_ble_eq_true rfl) ?_
  have hb' := s.load ok0 hb (.inl rfl)
  have hs' := s.sl ok0 hs (fun b h => .inr h)
  simp only [BS, Nat.reduceLT, if_true, List.nil_append, List.cons_append, eq_self, Tryz.FFt1200, hb', hs'.lenq]
  refine loop_ind (fun (i : Nat) ρ h => i ≤ ps.length ∧ ∃ F, ItS h0 (fun c => c = b ∨ blkOf v c) h F ∧ J i h F ∧ ρ 0 = .func (.yield lb) #[] #[] ∧ ρ 5 = v ∧ ρ 6 = .int .i64 ps.length ∧ ρ 7 = .int .i64 i) (fun i => ps.length - i) ?_ 0 _ _ ?_
  · intro i ih ρ h ⟨hi, F, s, hj, r0, r5, r6, r7⟩
    by_cases hlt : i < ps.length
    · have hs' := s.sl ok0 hs (fun b h => .inr h)
      obtain ⟨c, o, hidx, hld⟩ := hs'.ix (kd := .i64) encP_len hlt
      have S := St.init (M := NoM) s.ok
      have w : wrapI .i64 ((i : Int) + 1) = ((i + 1 : Nat) : Int) := by rw [wrap64] <;> omega
      simp only [BS, Nat.reduceLT, Nat.reduceEqDiff, if_true, if_false, decide_true, eq_self, Tryz.FFt1200, r5, r6, r7, lt_nat, hlt, hidx, hld]
      refine step_newS allocR_new S ?_; clear S; intro h bb S n_bb
      simp only [BS, Nat.reduceLT, Nat.reduceEqDiff, if_true, if_false, eq_self, encP]
      first | refine step_u (S.store (i := 0) rfl (by first | exact Tryz.s228) (by intro x e; cases e) rfl rfl (Nat.le_of_ble_eq_true rfl) Nat.one_ne_zero) ?_ | refine step_u (S.store (i := 1) rfl (by first | exact Tryz.s228) (by intro x e; cases e) rfl rfl (Nat.le_of_ble_eq_true rfl) Nat.one_ne_zero) ?_ | refine step_u (S.store (i := 2) rfl (by first | exact Tryz.s228) (by intro x e; cases e) rfl rfl (Nat.le_of_ble_eq_true rfl) Nat.one_ne_zero) ?_ | refine step_u (S.store (i := 3) rfl (by first | exact Tryz.s228) (by intro x e; cases e) rfl rfl (Nat.le_of_ble_eq_true rfl) Nat.one_ne_zero) ?_ | refine step_u (S.store (i := 4) rfl (by first | exact Tryz.s228) (by intro x e; cases e) rfl rfl (Nat.le_of_ble_eq_true rfl) Nat.one_ne_zero) ?_ | refine step_u (S.store (i := 5) rfl (by first | exact Tryz.s228) (by intro x e; cases e) rfl rfl (Nat.le_of_ble_eq_true rfl) Nat.one_ne_zero) ?_ | refine step_u (S.store (i := 6) rfl (by first | exact Tryz.s228) (by intro x e; cases e) rfl rfl (Nat.le_of_ble_eq_true rfl) Nat.one_ne_zero) ?_ | refine step_u (S.store (i := 7) rfl (by first | exact Tryz.s228) (by intro x e; cases e) rfl rfl (Nat.le_of_ble_eq_true rfl) Nat.one_ne_zero) ?_
      clear S; rintro h ⟨S, mo⟩; clear mo; simp only [List.set_cons_zero, List.set_cons_succ, vcells, lay, List.take, List.drop, List.nil_append, List.cons_append, List.append_nil, List.length_cons, List.length_nil, Nat.reduceAdd, Nat.add_zero] at S
      simp only [BS, Nat.reduceLT, Nat.reduceEqDiff, if_true, if_false, List.map_cons, List.map_nil, eq_self, Tryz.FFt1200, r0, S.lds (b := bb) (o := 0) (n := 6) (by first | exact m0 | exact m1 | exact m2 | exact m3 | exact m4 | exact m5 | exact m6 | exact m7) (Nat.le_of_ble_eq_true rfl)]
      refine yield_step Y (s.gr S.gr) (Y.gr _ _ _ _ hj S.gr) (i := i) (by simp [hlt, encP]) ?_ ?_ ?_
      · intro h' F' a s' _ _
        simp only [BS, Nat.reduceLT, Nat.reduceEqDiff, if_true, if_false, Bool.not_true, eq_self, r7, w]
        exact ih (i + 1) _ _ (by omega) ⟨by omega, F', s', a, by simp [setR, r0], by simp [setR, r5], by simp [setR, r6], by simp [setR]⟩
      · intro h' a _
        simp only [BS, Nat.reduceLT, Nat.reduceEqDiff, if_true, if_false, Bool.not_false, eq_self]
        exact leave_q rfl ⟨rfl, .inr (.inl ⟨_, rfl, a⟩)⟩
      · intro v h' a
        simp only [BS]
        exact leave_pan (un_nil ⟨rfl, .inr (.inr ⟨_, rfl, a⟩)⟩)
    · simp only [BS, Nat.reduceLT, if_true, decide_false, eq_self, r6, r7, lt_nat, hlt]
      have : i = ps.length := by omega
      subst this
      exact leave_genN (un_nil ⟨rfl, _, rfl, rfl, .inl ⟨_, F, rfl, by simpa using hj⟩⟩)
  · exact ⟨by omega, F, s, hj, by simp [setR, argR], by simp [setR], by simp [setR], by simp [setR]⟩
end Go.Ab

end
section
/- graph, run: what is looked at. -/
set_option maxHeartbeats 4000000

set_option linter.unusedVariables false
namespace Go.Ab
open Go.Proofs
set_option maxRecDepth 10000
set_option linter.defProp false
def Tryz.FFt2162 := And.intro Tryz.a1 <| And.intro Tryz.s1 <| And.intro Tryz.z1 <| And.intro Tryz.n1 <| And.intro Tryz.u2 <| And.intro Tryz.a2 <| And.intro Tryz.s2 <| And.intro Tryz.z2 <| And.intro Tryz.i2 <| And.intro Tryz.u3 <| And.intro Tryz.a3 <| And.intro Tryz.s3 <| And.intro Tryz.z3 <| And.intro Tryz.i3 <| And.intro Tryz.u4 <| And.intro Tryz.a4 <| And.intro Tryz.s4 <| And.intro Tryz.z4 <| And.intro Tryz.n4 <| And.intro Tryz.u5 <| And.intro Tryz.a5 <| And.intro Tryz.s5 <| And.intro Tryz.z5 <| And.intro Tryz.i5 <| And.intro Tryz.u140 <| And.intro Tryz.a140 <| And.intro Tryz.s140 <| And.intro Tryz.z140 <| And.intro Tryz.i140 <| And.intro Tryz.a222 <| And.intro Tryz.s222 <| And.intro Tryz.z222 <| And.intro Tryz.n222 <| And.intro Tryz.a228 <| And.intro Tryz.s228 <| And.intro Tryz.z228 <| And.intro Tryz.i228 <| And.intro Tryz.n228 <| And.intro Tryz.p228 <| And.intro Tryz.ff228 <| And.intro Tryz.d228 <| And.intro Tryz.u257 <| And.intro Tryz.a257 <| And.intro Tryz.s257 <| And.intro Tryz.z257 <| And.intro Tryz.q257 <| Tryz.n257
def Tryz.FFt2164 := And.intro Tryz.a1 <| And.intro Tryz.s1 <| And.intro Tryz.z1 <| And.intro Tryz.n1 <| And.intro Tryz.u2 <| And.intro Tryz.a2 <| And.intro Tryz.s2 <| And.intro Tryz.z2 <| And.intro Tryz.i2 <| And.intro Tryz.u3 <| And.intro Tryz.a3 <| And.intro Tryz.s3 <| And.intro Tryz.z3 <| And.intro Tryz.i3 <| And.intro Tryz.u4 <| And.intro Tryz.a4 <| And.intro Tryz.s4 <| And.intro Tryz.z4 <| And.intro Tryz.n4 <| And.intro Tryz.u5 <| And.intro Tryz.a5 <| And.intro Tryz.s5 <| And.intro Tryz.z5 <| And.intro Tryz.i5 <| And.intro Tryz.u25 <| And.intro Tryz.a25 <| And.intro Tryz.s25 <| And.intro Tryz.z25 <| And.intro Tryz.q25 <| And.intro Tryz.n25 <| And.intro Tryz.u26 <| And.intro Tryz.a26 <| And.intro Tryz.s26 <| And.intro Tryz.z26 <| And.intro Tryz.q26 <| And.intro Tryz.n26 <| And.intro Tryz.a28 <| And.intro Tryz.s28 <| And.intro Tryz.z28 <| And.intro Tryz.i28 <| And.intro Tryz.n28 <| And.intro Tryz.p28 <| And.intro Tryz.ff28 <| And.intro Tryz.d28 <| And.intro Tryz.a60 <| And.intro Tryz.s60 <| And.intro Tryz.z60 <| And.intro Tryz.i60 <| And.intro Tryz.n60 <| And.intro Tryz.p60 <| And.intro Tryz.ff60 <| And.intro Tryz.d60 <| And.intro Tryz.u140 <| And.intro Tryz.a140 <| And.intro Tryz.s140 <| And.intro Tryz.z140 <| And.intro Tryz.i140 <| And.intro Tryz.a222 <| And.intro Tryz.s222 <| And.intro Tryz.z222 <| And.intro Tryz.n222 <| And.intro Tryz.a228 <| And.intro Tryz.s228 <| And.intro Tryz.z228 <| And.intro Tryz.i228 <| And.intro Tryz.n228 <| And.intro Tryz.p228 <| And.intro Tryz.ff228 <| And.intro Tryz.d228 <| And.intro Tryz.u257 <| And.intro Tryz.a257 <| And.intro Tryz.s257 <| And.intro Tryz.z257 <| And.intro Tryz.q257 <| Tryz.n257
def Tryz.FFt2166 := And.intro Tryz.a1 <| And.intro Tryz.s1 <| And.intro Tryz.z1 <| And.intro Tryz.n1 <| And.intro Tryz.u2 <| And.intro Tryz.a2 <| And.intro Tryz.s2 <| And.intro Tryz.z2 <| And.intro Tryz.i2 <| And.intro Tryz.u3 <| And.intro Tryz.a3 <| And.intro Tryz.s3 <| And.intro Tryz.z3 <| And.intro Tryz.i3 <| And.intro Tryz.u25 <| And.intro Tryz.a25 <| And.intro Tryz.s25 <| And.intro Tryz.z25 <| And.intro Tryz.q25 <| And.intro Tryz.n25 <| And.intro Tryz.u26 <| And.intro Tryz.a26 <| And.intro Tryz.s26 <| And.intro Tryz.z26 <| And.intro Tryz.q26 <| And.intro Tryz.n26 <| And.intro Tryz.a28 <| And.intro Tryz.s28 <| And.intro Tryz.z28 <| And.intro Tryz.i28 <| And.intro Tryz.n28 <| And.intro Tryz.p28 <| And.intro Tryz.ff28 <| And.intro Tryz.d28 <| And.intro Tryz.a60 <| And.intro Tryz.s60 <| And.intro Tryz.z60 <| And.intro Tryz.i60 <| And.intro Tryz.n60 <| And.intro Tryz.p60 <| And.intro Tryz.ff60 <| And.intro Tryz.d60 <| And.intro Tryz.a221 <| And.intro Tryz.s221 <| And.intro Tryz.z221 <| And.intro Tryz.n221 <| And.intro Tryz.a222 <| And.intro Tryz.s222 <| And.intro Tryz.z222 <| Tryz.n222
def Tryz.FFt2169 := And.intro Tryz.a1 <| And.intro Tryz.s1 <| And.intro Tryz.z1 <| And.intro Tryz.n1 <| And.intro Tryz.u2 <| And.intro Tryz.a2 <| And.intro Tryz.s2 <| And.intro Tryz.z2 <| And.intro Tryz.i2 <| And.intro Tryz.u3 <| And.intro Tryz.a3 <| And.intro Tryz.s3 <| And.intro Tryz.z3 <| And.intro Tryz.i3 <| And.intro Tryz.u25 <| And.intro Tryz.a25 <| And.intro Tryz.s25 <| And.intro Tryz.z25 <| And.intro Tryz.q25 <| And.intro Tryz.n25 <| And.intro Tryz.u26 <| And.intro Tryz.a26 <| And.intro Tryz.s26 <| And.intro Tryz.z26 <| And.intro Tryz.q26 <| And.intro Tryz.n26 <| And.intro Tryz.a28 <| And.intro Tryz.s28 <| And.intro Tryz.z28 <| And.intro Tryz.i28 <| And.intro Tryz.n28 <| And.intro Tryz.p28 <| And.intro Tryz.ff28 <| And.intro Tryz.d28 <| And.intro Tryz.a60 <| And.intro Tryz.s60 <| And.intro Tryz.z60 <| And.intro Tryz.i60 <| And.intro Tryz.n60 <| And.intro Tryz.p60 <| And.intro Tryz.ff60 <| And.intro Tryz.d60 <| And.intro Tryz.a221 <| And.intro Tryz.s221 <| And.intro Tryz.z221 <| And.intro Tryz.n221 <| And.intro Tryz.a222 <| And.intro Tryz.s222 <| And.intro Tryz.z222 <| Tryz.n222
def Tryz.FFt2189 := And.intro Tryz.a1 <| And.intro Tryz.s1 <| And.intro Tryz.z1 <| And.intro Tryz.n1 <| And.intro Tryz.u2 <| And.intro Tryz.a2 <| And.intro Tryz.s2 <| And.intro Tryz.z2 <| And.intro Tryz.i2 <| And.intro Tryz.u3 <| And.intro Tryz.a3 <| And.intro Tryz.s3 <| And.intro Tryz.z3 <| And.intro Tryz.i3 <| And.intro Tryz.u4 <| And.intro Tryz.a4 <| And.intro Tryz.s4 <| And.intro Tryz.z4 <| And.intro Tryz.n4 <| And.intro Tryz.u5 <| And.intro Tryz.a5 <| And.intro Tryz.s5 <| And.intro Tryz.z5 <| And.intro Tryz.i5 <| And.intro Tryz.u6 <| And.intro Tryz.a6 <| And.intro Tryz.s6 <| And.intro Tryz.z6 <| And.intro Tryz.i6 <| And.intro Tryz.a7 <| And.intro Tryz.s7 <| And.intro Tryz.z7 <| And.intro Tryz.i7 <| And.intro Tryz.n7 <| And.intro Tryz.p7 <| And.intro Tryz.ff7 <| And.intro Tryz.d7 <| And.intro Tryz.a8 <| And.intro Tryz.s8 <| And.intro Tryz.z8 <| And.intro Tryz.i8 <| And.intro Tryz.n8 <| And.intro Tryz.p8 <| And.intro Tryz.ff8 <| And.intro Tryz.d8 <| And.intro Tryz.u25 <| And.intro Tryz.a25 <| And.intro Tryz.s25 <| And.intro Tryz.z25 <| And.intro Tryz.q25 <| And.intro Tryz.n25 <| And.intro Tryz.u26 <| And.intro Tryz.a26 <| And.intro Tryz.s26 <| And.intro Tryz.z26 <| And.intro Tryz.q26 <| And.intro Tryz.n26 <| And.intro Tryz.a28 <| And.intro Tryz.s28 <| And.intro Tryz.z28 <| And.intro Tryz.i28 <| And.intro Tryz.n28 <| And.intro Tryz.p28 <| And.intro Tryz.ff28 <| And.intro Tryz.d28 <| And.intro Tryz.a60 <| And.intro Tryz.s60 <| And.intro Tryz.z60 <| And.intro Tryz.i60 <| And.intro Tryz.n60 <| And.intro Tryz.p60 <| And.intro Tryz.ff60 <| And.intro Tryz.d60 <| And.intro Tryz.u140 <| And.intro Tryz.a140 <| And.intro Tryz.s140 <| And.intro Tryz.z140 <| And.intro Tryz.i140 <| And.intro Tryz.a228 <| And.intro Tryz.s228 <| And.intro Tryz.z228 <| And.intro Tryz.i228 <| And.intro Tryz.n228 <| And.intro Tryz.p228 <| And.intro Tryz.ff228 <| And.intro Tryz.d228 <| And.intro Tryz.a258 <| And.intro Tryz.s258 <| And.intro Tryz.z258 <| Tryz.n258
/-- A function hands on places that are right; it looks at blocks below n0, or from n1 on. -/
def TellR (n0 n1 : Nat) (v : Value) (h' : Hp) : Prop := ∃ gi a post, ∃ (ps : List Pl) (D : Nat → Prop), v = .func (.func gi) a post ∧ Iter Tryz.abEnv gi a.toList post.toList h' D (ps.map fun p => [.agg ⟨encP p⟩]) ∧ (∀ p ∈ ps, p.lo ≤ p.n ∧ p.n < p.hi) ∧ ∀ c, D c → c < n0 ∨ n1 ≤ c
theorem one_ok {h0 : Hp} (ok : h0.t.Sized h0.n) {c n lo hi : Int} (h1 : lo ≤ n) (h2 : n < hi) :
    Ret Tryz.abEnv 162 [.int .i64 c, .int .i64 n, .int .i64 lo, .int .i64 hi] h0 fun v h' => Gr h0 h' ∧ TellR 0 h0.n v h' := by
  have S := St.init (M := NoM) ok
  refine enter_ret (n := 16) (rs := [.tmp 8]) rfl Tryz.e162 rfl rfl rfl (Nat.le_of_ble_eq_true rfl) ?_
  simp only [BS, Option.isSome_some, Nat.reduceLT, Nat.reduceEqDiff, Nat.reduceAdd, if_true, if_false, List.map_cons, List.map_nil, List.length_cons, List.length_nil, List.set_cons_zero, List.set_cons_succ, List.getElem?_cons_zero, List.getElem?_cons_succ, Nat.zero_add, eq_self, Tryz.FFt2162]
  refine step_newS (bs_new (by first | exact Tryz.u257) (by first | exact Tryz.e228E) (by decide) (by first | rfl | exact fillE )) S ?_; clear S; intro h b S n_b; simp only [repL, setL, vcells, List.cons_append, List.nil_append, List.append_nil, List.set_cons_zero, List.set_cons_succ, Nat.reduceMul, Nat.reduceAdd, Nat.zero_mul, Nat.zero_add, Nat.mul_one, Nat.one_mul] at S
  simp only [BS, Nat.reduceLT, Nat.reduceEqDiff, if_true, if_false, List.map_cons, List.map_nil, List.append_nil, List.nil_append, eq_self]
  have q := S.fr.n
  refine step_ret (values S.ok fl_slice) ?_; intro v h ⟨g, b2, e, n2, l2⟩; replace S := S.call g; clear g
  subst e
  simp only [BS, tupleOf, Nat.reduceLT, Nat.reduceEqDiff, if_true, if_false, eq_self]
  have hs : SlAt h 6 encP (.slice (some ⟨b, 0, none⟩) 1 1) [⟨0, 0, c, n, lo, hi⟩] := .inr ⟨b, 0, none, 1, rfl, Nat.le_refl _, S.lds (b := b) (o := 0) (n := 1 * 6) m0 (Nat.le_of_ble_eq_true rfl)⟩
  exact ⟨S.gr, _, #[], #[ptrTo b2], _, _, rfl, values_iter S.ok l2 hs (by simp), by intro p hp; simp at hp; subst hp; exact ⟨h1, h2⟩, fun c hc => by rcases hc with rfl | hc; exact .inr (by omega); cases hc; exact .inr n_b⟩
theorem shapes_ok {h0 : Hp} (ok : h0.t.Sized h0.n) {γ : Gra} (hγ : Good γ) {vx vy va : Value} (ga : GraphAt h0 vx vy va γ) :
    Ret Tryz.abEnv 164 [rawV γ vx vy va] h0 fun v h' => Gr h0 h' ∧ TellR 0 h0.n v h' := by
  have S := St.init (M := NoM) ok
  have n1 := hγ.n1
  have n2 := hγ.n2
  have w : wrapI .i64 ((γ.nodes : Int) + 1) = ((γ.nodes + 1 : Nat) : Int) := by rw [wrap64] <;> omega
  refine enter_ret (n := 22) (rs := [.tmp 2]) rfl Tryz.e164 rfl rfl rfl (Nat.le_of_ble_eq_true rfl) ?_
  simp only [BS, Nat.reduceLT, rawV]
  refine step_newS (box_new (by intro x e; cases e)) S ?_; clear S; intro h b S n_b; simp only [vcells] at S
  simp only [BS, Option.isSome_some, Nat.add_zero, Nat.reduceLT, Nat.reduceEqDiff, Nat.reduceAdd, if_true, if_false, List.map_cons, List.map_nil, List.length_cons, List.length_nil, List.set_cons_zero, List.set_cons_succ, List.getElem?_cons_zero, List.getElem?_cons_succ, Nat.zero_add, eq_self, Tryz.FFt2164, ga.X.lenq, ga.Y.lenq, w, S.ld (b := b) (o := 0) (by first | exact m0 | exact m1 | exact m2 | exact m3 | exact m4 | exact m5 | exact m6 | exact m7) rfl, S.ld (b := b) (o := 1) (by first | exact m0 | exact m1 | exact m2 | exact m3 | exact m4 | exact m5 | exact m6 | exact m7) rfl, S.ld (b := b) (o := 2) (by first | exact m0 | exact m1 | exact m2 | exact m3 | exact m4 | exact m5 | exact m6 | exact m7) rfl]
  refine step_newS (bs_new (by first | exact Tryz.u25 | exact Tryz.u26 | exact Tryz.u257) (by first | exact Tryz.e2E | exact Tryz.e60E | exact Tryz.e228E) (by decide) (by first | rfl | exact fillE )) S ?_; clear S; intro h b1 S n_b1; simp only [repL, setL, vcells, List.cons_append, List.nil_append, List.append_nil, List.set_cons_zero, List.set_cons_succ, Nat.reduceMul, Nat.reduceAdd, Nat.zero_mul, Nat.zero_add, Nat.mul_one, Nat.one_mul] at S
  simp only [BS, Nat.reduceLT, Nat.reduceEqDiff, if_true, if_false, List.map_cons, List.map_nil, List.append_nil, List.nil_append, eq_self]
  have q := S.fr.n
  refine step_ret (values S.ok fl_slice) ?_; intro v h ⟨g, b2, e, n2', l2⟩; replace S := S.call g; clear g
  subst e
  simp only [BS, tupleOf, Nat.reduceLT, Nat.reduceEqDiff, if_true, if_false, eq_self]
  have hs : SlAt h 6 encP (.slice (some ⟨b1, 0, none⟩) 2 2) [⟨0, 0, 6, γ.X.length, γ.nodes, (γ.nodes + 1 : Nat)⟩, ⟨0, 1, 6, γ.Y.length, γ.nodes, (γ.nodes + 1 : Nat)⟩] := .inr ⟨b1, 0, none, 2, rfl, Nat.le_refl _, S.lds (b := b1) (o := 0) (n := 2 * 6) m0 (Nat.le_of_ble_eq_true rfl)⟩
  refine ⟨S.gr, _, #[], #[ptrTo b2], _, _, rfl, values_iter S.ok l2 hs (by simp), ?_, fun c hc => by rcases hc with rfl | hc; exact .inr (by omega); cases hc; exact .inr n_b1⟩
  intro p hp
  have := hγ.lX
  have := hγ.lY
  simp at hp
  rcases hp with rfl | rfl <;> (simp only []; omega)
theorem nodes_ok {h0 : Hp} (ok : h0.t.Sized h0.n) {vx vy va vn : Value} : Ret Tryz.abEnv 166 [.agg ⟨[vn, vx, vy, va]⟩] h0 fun v h' => Gr h0 h' ∧ ∃ b, v = .func (.func 189) #[] #[ptrTo b] ∧ h0.n ≤ b ∧ Row h' b [vn, vx, vy, va] 1 := by
  have S := St.init (M := NoM) ok
  refine enter_ret (n := 4) (rs := [.tmp 2]) rfl Tryz.e166 rfl rfl rfl (Nat.le_of_ble_eq_true rfl) ?_
  simp only [BS, Nat.reduceLT]
  refine step_newS (box_new (by intro x e; cases e)) S ?_; clear S; intro h b S n_b; simp only [vcells] at S
  simp only [BS, tupleOf, Nat.reduceLT, Nat.reduceEqDiff, if_true, if_false, List.map_cons, List.map_nil, List.map_toArray, eq_self]
  exact ⟨S.gr, b, rfl, n_b, S.row m0⟩
theorem arcs_ok {h0 : Hp} (ok : h0.t.Sized h0.n) {vx vy va vn : Value} : Ret Tryz.abEnv 169 [.agg ⟨[vn, vx, vy, va]⟩] h0 fun v h' => Gr h0 h' ∧ ∃ b, v = .func (.func 190) #[] #[ptrTo b] ∧ h0.n ≤ b ∧ Row h' b [vn, vx, vy, va] 1 := by
  have S := St.init (M := NoM) ok
  refine enter_ret (n := 4) (rs := [.tmp 2]) rfl Tryz.e169 rfl rfl rfl (Nat.le_of_ble_eq_true rfl) ?_
  simp only [BS, Nat.reduceLT]
  refine step_newS (box_new (by intro x e; cases e)) S ?_; clear S; intro h b S n_b; simp only [vcells] at S
  simp only [BS, tupleOf, Nat.reduceLT, Nat.reduceEqDiff, if_true, if_false, List.map_cons, List.map_nil, List.map_toArray, eq_self]
  exact ⟨S.gr, b, rfl, n_b, S.row m0⟩
def plN (X Y : List Int) : List Pl := (List.range X.length).flatMap fun (i : Nat) => [⟨i, 0, 7, X.getD i 0, -2147483648, 2147483648⟩, ⟨i, 1, 7, Y.getD i 0, -2147483648, 2147483648⟩]
theorem plN_len (X Y : List Int) : (plN X Y).length = 2 * X.length := by
  unfold plN
  rw [List.length_flatMap]
  simp [List.map_const']
  omega
theorem plN_at (X Y : List Int) {i : Nat} (hi : i < X.length) : (plN X Y)[2 * i]? = some ⟨i, 0, 7, X.getD i 0, -2147483648, 2147483648⟩ ∧ (plN X Y)[2 * i + 1]? = some ⟨i, 1, 7, Y.getD i 0, -2147483648, 2147483648⟩ := by
  unfold plN
  have key : ∀ (n j : Nat) (f : Nat → Pl) (k : Nat → Pl), j < n → ((List.range n).flatMap fun i => [f i, k i])[2 * j]? = some (f j) ∧ ((List.range n).flatMap fun i => [f i, k i])[2 * j + 1]? = some (k j) := by
    intro n
    induction n with
    | zero => intro j f k hj; omega
    | succ n ih =>
      intro j f k hj
      have hlen : ((List.range n).flatMap fun i => [f i, k i]).length = 2 * n := by rw [List.length_flatMap]; simp [List.map_const']; omega
      rw [List.range_succ, List.flatMap_append]
      by_cases h : j < n
      · rw [List.getElem?_append_left (by omega), List.getElem?_append_left (by omega)]; exact ih j f k h
      · have : j = n := by omega
        subst this
        rw [List.getElem?_append_right (by omega), List.getElem?_append_right (by omega), hlen]
        simp
  exact key _ _ _ _ hi
theorem nodes_iter {h0 : Hp} (ok0 : h0.t.Sized h0.n) {vx vy va vn : Value} {b : Nat} {X Y : List Int} (hb : Row h0 b [vn, vx, vy, va] 1) (hX : SlAt h0 1 (encI .i64) vx X) (hY : SlAt h0 1 (encI .i64) vy Y) (hl : X.length = Y.length) (hlen : X.length < 1000) :
    Iter Tryz.abEnv 189 [] [ptrTo b] h0 (fun c => c = b ∨ blkOf vx c ∨ blkOf vy c) ((plN X Y).map fun p => [.agg ⟨encP p⟩]) := by
  refine iter_mk fun lb J Z Y' h F s hj => ?_
  refine enter (n := 38) (rs := []) rfl Tryz.e189 rfl rfl rfl (Nat.le_of_ble_eq_true rfl) ?_
  have l1 := s.load ok0 (hb.load1 (o := 1) rfl) (.inl rfl)
  simp only [BS, Nat.reduceLT, Nat.reduceEqDiff, if_true, if_false, List.nil_append, List.cons_append, Nat.zero_add, eq_self, Tryz.FFt2189, l1, hX.lenq]
  refine loop_ind (fun (i : Nat) ρ h => i ≤ X.length ∧ ∃ F, ItS h0 (fun c => c = b ∨ blkOf vx c ∨ blkOf vy c) h F ∧ J (2 * i) h F ∧ ρ 0 = .func (.yield lb) #[] #[] ∧ ρ 1 = ptrTo b ∧ ρ 8 = .int .i64 X.length ∧ ρ 9 = .int .i64 i) (fun i => X.length - i) ?_ 0 _ _ ?_
  · intro i ih ρ h ⟨hi, F, s, hj, r0, r1, r8, r9⟩
    by_cases hlt : i < X.length
    · have hX' := s.sl ok0 hX (fun b h => .inr (.inl h))
      have hY' := s.sl ok0 hY (fun b h => .inr (.inr h))
      have l1 := s.load ok0 (hb.load1 (o := 1) rfl) (.inl rfl)
      have l2 := s.load ok0 (hb.load1 (o := 2) rfl) (.inl rfl)
      obtain ⟨c, o, hidx, hld⟩ := hX'.ix (kd := .i64) (encI_len _) hlt
      obtain ⟨c2, o2, hidx2, hld2⟩ := hY'.ix (kd := .i64) (encI_len _) (i := i) (by omega)
      have S := St.init (M := NoM) s.ok
      have w : wrapI .i64 ((i : Int) + 1) = ((i + 1 : Nat) : Int) := by rw [wrap64] <;> omega
      simp only [BS, Nat.reduceLT, Nat.reduceEqDiff, if_true, if_false, decide_true, eq_self, r8, r9, lt_nat, hlt]
      refine draw_step (hoist_no rfl) (q := 1024) (ps := []) (by kernel_rfl) ?_
      simp only [BS, cls, Nat.reduceLT, Nat.reduceEqDiff, Nat.reduceAdd, if_true, if_false, List.map_cons, List.map_nil, Nat.reducePow, Nat.reduceDiv, Nat.reduceMod, Nat.reduceLeDiff, Bool.and_true, Bool.and_false, Nat.zero_add, decide_true, decide_false, eq_self, Tryz.FFt2189, r1, l1, l2, hidx, hidx2, hld, hld2, encI]
      refine dq_newS (bs_new (by first | exact Tryz.u25 | exact Tryz.u26) (by first | exact Tryz.e2E | exact Tryz.e60E) (by decide) (by first | rfl | exact fillE )) S ?_; clear S; intro h b22 S n_b22 e_b22; simp only [repL, setL, vcells, List.cons_append, List.nil_append, List.append_nil, List.set_cons_zero, List.set_cons_succ, Nat.reduceMul, Nat.reduceAdd, Nat.zero_mul, Nat.zero_add, Nat.mul_one, Nat.one_mul] at S
      simp only [BS, cls, Nat.reduceLT, Nat.reduceEqDiff, Nat.reduceAdd, if_true, if_false, Nat.reducePow, Nat.reduceDiv, Nat.reduceMod, Nat.reduceLeDiff, Bool.and_false, Int.cast_ofNat_Int, true_and, decide_false, eq_self, Tryz.FFt2189]
      have w1 : wrapI .i64 1 = 1 := rfl
      have w2 : wrapI .i64 2 = 2 := rfl
      have hp := plN_at X Y hlt
      rw [run_unroll]
      simp only [BS, Option.isSome_some, Nat.add_zero, Nat.reduceLT, Nat.reduceEqDiff, Nat.reduceAdd, if_true, if_false, List.map_cons, List.map_nil, List.length_cons, List.length_nil, List.set_cons_zero, List.set_cons_succ, List.getElem?_cons_zero, List.getElem?_cons_succ, Int.reduceToNat, Int.reduceLE, Int.reduceLT, Int.cast_ofNat_Int, Nat.mul_one, Nat.zero_add, decide_true, eq_self, Tryz.FFt2189, r0, S.ld (b := b22) (o := 0) (by first | exact m0 | exact m1 | exact m2 | exact m3 | exact m4 | exact m5 | exact m6 | exact m7) rfl, S.ld (b := b22) (o := 1) (by first | exact m0 | exact m1 | exact m2 | exact m3 | exact m4 | exact m5 | exact m6 | exact m7) rfl]
      refine yield_step Y' (s.gr S.gr) (Y'.gr _ _ _ _ hj S.gr) (i := 2 * i) (by rw [List.getElem?_map, hp.1]; simp [encP, List.getD_eq_getElem?_getD, hlt]) ?_ ?_ ?_
      · intro h2 F2 a s2 mo2 _
        have nF : b22 ∉ F := fun hm => by have := s.lt _ hm; omega
        have R : Row h2 b22 _ 1 := (S.row m0).of_get (mo2.get _ ((S.row m0).lt S.ok) nF)
        have R1 := R.load1 (o := 1) rfl
        have nF2 : True := trivial
        simp only [BS, Nat.reduceLT, Nat.reduceEqDiff, if_true, if_false, Int.reduceAdd, Bool.not_true, eq_self, w1]
        rw [run_unroll]
        simp only [BS, Option.isSome_some, Nat.reduceLT, Nat.reduceEqDiff, Nat.reduceAdd, if_true, if_false, List.map_cons, List.map_nil, List.length_cons, List.length_nil, List.set_cons_zero, List.set_cons_succ, List.getElem?_cons_zero, List.getElem?_cons_succ, Int.reduceToNat, Int.reduceLE, Int.reduceLT, Int.cast_ofNat_Int, Nat.mul_one, Nat.zero_add, decide_true, eq_self, Tryz.FFt2189, r0, R1]
        refine yield_step Y' s2 a (i := 2 * i + 1) (by rw [List.getElem?_map, hp.2]; simp [encP, List.getD_eq_getElem?_getD, show i < Y.length by omega]) ?_ ?_ ?_
        · intro h3 F3 a s3 _ _
          simp only [BS, Nat.reduceLT, Nat.reduceEqDiff, if_true, if_false, Int.reduceAdd, Bool.not_true, eq_self, w2]
          rw [run_unroll]
          simp only [BS, Nat.reduceLT, Nat.reduceEqDiff, if_true, if_false, Int.reduceLT, decide_false, eq_self, r9, w]
          exact ih (i + 1) _ _ (by omega) ⟨by omega, F3, s3, a, by simp [setR, r0], by simp [setR, r1], by simp [setR, r8], by simp [setR]⟩
        · intro h' a _
          simp only [BS, Nat.reduceLT, Nat.reduceEqDiff, if_true, if_false, Bool.not_false, eq_self]
          exact leave_q rfl ⟨rfl, .inr (.inl ⟨_, rfl, a⟩)⟩
        · intro v h' a
          simp only [BS]
          exact leave_pan (un_nil ⟨rfl, .inr (.inr ⟨_, rfl, a⟩)⟩)
      · intro h' a _
        simp only [BS, Nat.reduceLT, Nat.reduceEqDiff, if_true, if_false, Bool.not_false, eq_self]
        exact leave_q rfl ⟨rfl, .inr (.inl ⟨_, rfl, a⟩)⟩
      · intro v h' a
        simp only [BS]
        exact leave_pan (un_nil ⟨rfl, .inr (.inr ⟨_, rfl, a⟩)⟩)
    · simp only [BS, Nat.reduceLT, if_true, decide_false, eq_self, r8, r9, lt_nat, hlt]
      have : i = X.length := by omega
      subst this
      exact leave_genN (un_nil ⟨rfl, _, rfl, rfl, .inl ⟨_, F, rfl, by simpa [plN_len] using hj⟩⟩)
  · exact ⟨by omega, F, s, hj, by simp [setR, argR], by simp [setR, argR, ptr_eq], by simp [setR], by simp [setR]⟩
end Go.Ab

end
section
/- graph, run: arcs are looked at. -/
set_option maxHeartbeats 4000000

set_option linter.unusedVariables false
namespace Go.Ab
open Go.Proofs
set_option maxRecDepth 10000
set_option linter.defProp false
def Tryz.FFt3190 := And.intro Tryz.a1 <| And.intro Tryz.s1 <| And.intro Tryz.z1 <| And.intro Tryz.n1 <| And.intro Tryz.u2 <| And.intro Tryz.a2 <| And.intro Tryz.s2 <| And.intro Tryz.z2 <| And.intro Tryz.i2 <| And.intro Tryz.u3 <| And.intro Tryz.a3 <| And.intro Tryz.s3 <| And.intro Tryz.z3 <| And.intro Tryz.i3 <| And.intro Tryz.u4 <| And.intro Tryz.a4 <| And.intro Tryz.s4 <| And.intro Tryz.z4 <| And.intro Tryz.n4 <| And.intro Tryz.u5 <| And.intro Tryz.a5 <| And.intro Tryz.s5 <| And.intro Tryz.z5 <| And.intro Tryz.i5 <| And.intro Tryz.u6 <| And.intro Tryz.a6 <| And.intro Tryz.s6 <| And.intro Tryz.z6 <| And.intro Tryz.i6 <| And.intro Tryz.a7 <| And.intro Tryz.s7 <| And.intro Tryz.z7 <| And.intro Tryz.i7 <| And.intro Tryz.n7 <| And.intro Tryz.p7 <| And.intro Tryz.ff7 <| And.intro Tryz.d7 <| And.intro Tryz.a8 <| And.intro Tryz.s8 <| And.intro Tryz.z8 <| And.intro Tryz.i8 <| And.intro Tryz.n8 <| And.intro Tryz.p8 <| And.intro Tryz.ff8 <| And.intro Tryz.d8 <| And.intro Tryz.u9 <| And.intro Tryz.a9 <| And.intro Tryz.s9 <| And.intro Tryz.z9 <| And.intro Tryz.n9 <| And.intro Tryz.u25 <| And.intro Tryz.a25 <| And.intro Tryz.s25 <| And.intro Tryz.z25 <| And.intro Tryz.q25 <| And.intro Tryz.n25 <| And.intro Tryz.u26 <| And.intro Tryz.a26 <| And.intro Tryz.s26 <| And.intro Tryz.z26 <| And.intro Tryz.q26 <| And.intro Tryz.n26 <| And.intro Tryz.a28 <| And.intro Tryz.s28 <| And.intro Tryz.z28 <| And.intro Tryz.i28 <| And.intro Tryz.n28 <| And.intro Tryz.p28 <| And.intro Tryz.ff28 <| And.intro Tryz.d28 <| And.intro Tryz.a60 <| And.intro Tryz.s60 <| And.intro Tryz.z60 <| And.intro Tryz.i60 <| And.intro Tryz.n60 <| And.intro Tryz.p60 <| And.intro Tryz.ff60 <| And.intro Tryz.d60 <| And.intro Tryz.u140 <| And.intro Tryz.a140 <| And.intro Tryz.s140 <| And.intro Tryz.z140 <| And.intro Tryz.i140 <| And.intro Tryz.a228 <| And.intro Tryz.s228 <| And.intro Tryz.z228 <| And.intro Tryz.i228 <| And.intro Tryz.n228 <| And.intro Tryz.p228 <| And.intro Tryz.ff228 <| And.intro Tryz.d228 <| And.intro Tryz.u257 <| And.intro Tryz.a257 <| And.intro Tryz.s257 <| And.intro Tryz.z257 <| And.intro Tryz.q257 <| And.intro Tryz.n257 <| And.intro Tryz.a258 <| And.intro Tryz.s258 <| And.intro Tryz.z258 <| Tryz.n258
def plA (n : Nat) (A : List Arc) : List Pl := (List.range A.length).flatMap fun (i : Nat) => [⟨i, 0, 9, (A.getD i default).s, 0, n⟩, ⟨i, 1, 9, (A.getD i default).t, 0, n⟩, ⟨i, 2, 10, (A.getD i default).w, 0, 2147483648⟩]
theorem flat3_at {α : Type} (f k l : Nat → α) : ∀ (n j : Nat), j < n → ((List.range n).flatMap fun i => [f i, k i, l i])[3 * j]? = some (f j) ∧ ((List.range n).flatMap fun i => [f i, k i, l i])[3 * j + 1]? = some (k j) ∧ ((List.range n).flatMap fun i => [f i, k i, l i])[3 * j + 2]? = some (l j) := by
  intro n
  induction n with
  | zero => intro j hj; omega
  | succ n ih =>
    intro j hj
    have hlen : ((List.range n).flatMap fun i => [f i, k i, l i]).length = 3 * n := by rw [List.length_flatMap]; simp [List.map_const']; omega
    rw [List.range_succ, List.flatMap_append]
    by_cases h : j < n
    · rw [List.getElem?_append_left (by omega), List.getElem?_append_left (by omega), List.getElem?_append_left (by omega)]; exact ih j h
    · have : j = n := by omega
      subst this
      rw [List.getElem?_append_right (by omega), List.getElem?_append_right (by omega), List.getElem?_append_right (by omega), hlen]
      simp
theorem plA_len (n : Nat) (A : List Arc) : (plA n A).length = 3 * A.length := by
  unfold plA
  rw [List.length_flatMap]
  simp [List.map_const']
  omega
theorem arcs_iter {h0 : Hp} (ok0 : h0.t.Sized h0.n) {vx vy va : Value} {b n : Nat} {A : List Arc} (hb : Row h0 b [.int .i64 n, vx, vy, va] 1) (hA : SlAt h0 3 encA va A) (hlen : A.length < 1000) :
    Iter Tryz.abEnv 190 [] [ptrTo b] h0 (fun c => c = b ∨ blkOf va c) ((plA n A).map fun p => [.agg ⟨encP p⟩]) := by
  refine iter_mk fun lb J Z Y' h F s hj => ?_
  refine enter (n := 44) (rs := []) rfl Tryz.e190 rfl rfl rfl (Nat.le_of_ble_eq_true rfl) ?_
  have l0 := s.load ok0 (hb.load1 (o := 0) rfl) (.inl rfl)
  have l3 := s.load ok0 (hb.load1 (o := 3) rfl) (.inl rfl)
  simp only [BS, Nat.add_zero, Nat.reduceLT, Nat.reduceEqDiff, if_true, if_false, List.nil_append, List.cons_append, Nat.zero_add, eq_self, Tryz.FFt3190, l0, l3, hA.lenq]
  refine loop_ind (fun (i : Nat) ρ h => i ≤ A.length ∧ ∃ F, ItS h0 (fun c => c = b ∨ blkOf va c) h F ∧ J (3 * i) h F ∧ ρ 0 = .func (.yield lb) #[] #[] ∧ ρ 3 = .int .i64 n ∧ ρ 11 = va ∧ ρ 12 = .int .i64 A.length ∧ ρ 13 = .int .i64 i) (fun i => A.length - i) ?_ 0 _ _ ?_
  · intro i ih ρ h ⟨hi, F, s, hj, r0, r3, r11, r12, r13⟩
    by_cases hlt : i < A.length
    · have hA' := s.sl ok0 hA (fun b h => .inr h)
      obtain ⟨c, o, hidx, hld⟩ := hA'.ix (kd := .i64) encA_len hlt
      have S := St.init (M := NoM) s.ok
      have w : wrapI .i64 ((i : Int) + 1) = ((i + 1 : Nat) : Int) := by rw [wrap64] <;> omega
      have w1 : wrapI .i64 1 = 1 := rfl
      have w2 : wrapI .i64 2 = 2 := rfl
      have w3 : wrapI .i64 3 = 3 := rfl
      have hp := flat3_at (fun (i : Nat) => (⟨i, 0, 9, (A.getD i default).s, 0, n⟩ : Pl)) (fun (i : Nat) => ⟨i, 1, 9, (A.getD i default).t, 0, n⟩) (fun (i : Nat) => ⟨i, 2, 10, (A.getD i default).w, 0, 2147483648⟩) A.length i hlt
      have hd : A.getD i default = A[i] := by simp [List.getD_eq_getElem?_getD, hlt]
      simp only [BS, Nat.reduceLT, Nat.reduceEqDiff, if_true, if_false, decide_true, eq_self, Tryz.FFt3190, r11, r12, r13, lt_nat, hlt, hidx, hld]
      refine step_newS allocR_new S ?_; clear S; intro h b5 S n_b5
      simp only [BS, Nat.reduceLT, Nat.reduceEqDiff, if_true, if_false, eq_self, encA]
      first | refine step_u (S.store (i := 0) rfl (by first | exact Tryz.s7 | exact Tryz.s8 | exact Tryz.s28 | exact Tryz.s60 | exact Tryz.s228) (by intro x e; cases e) rfl rfl (Nat.le_of_ble_eq_true rfl) Nat.one_ne_zero) ?_ | refine step_u (S.store (i := 1) rfl (by first | exact Tryz.s7 | exact Tryz.s8 | exact Tryz.s28 | exact Tryz.s60 | exact Tryz.s228) (by intro x e; cases e) rfl rfl (Nat.le_of_ble_eq_true rfl) Nat.one_ne_zero) ?_ | refine step_u (S.store (i := 2) rfl (by first | exact Tryz.s7 | exact Tryz.s8 | exact Tryz.s28 | exact Tryz.s60 | exact Tryz.s228) (by intro x e; cases e) rfl rfl (Nat.le_of_ble_eq_true rfl) Nat.one_ne_zero) ?_ | refine step_u (S.store (i := 3) rfl (by first | exact Tryz.s7 | exact Tryz.s8 | exact Tryz.s28 | exact Tryz.s60 | exact Tryz.s228) (by intro x e; cases e) rfl rfl (Nat.le_of_ble_eq_true rfl) Nat.one_ne_zero) ?_ | refine step_u (S.store (i := 4) rfl (by first | exact Tryz.s7 | exact Tryz.s8 | exact Tryz.s28 | exact Tryz.s60 | exact Tryz.s228) (by intro x e; cases e) rfl rfl (Nat.le_of_ble_eq_true rfl) Nat.one_ne_zero) ?_ | refine step_u (S.store (i := 5) rfl (by first | exact Tryz.s7 | exact Tryz.s8 | exact Tryz.s28 | exact Tryz.s60 | exact Tryz.s228) (by intro x e; cases e) rfl rfl (Nat.le_of_ble_eq_true rfl) Nat.one_ne_zero) ?_ | refine step_u (S.store (i := 6) rfl (by first | exact Tryz.s7 | exact Tryz.s8 | exact Tryz.s28 | exact Tryz.s60 | exact Tryz.s228) (by intro x e; cases e) rfl rfl (Nat.le_of_ble_eq_true rfl) Nat.one_ne_zero) ?_ | refine step_u (S.store (i := 7) rfl (by first | exact Tryz.s7 | exact Tryz.s8 | exact Tryz.s28 | exact Tryz.s60 | exact Tryz.s228) (by intro x e; cases e) rfl rfl (Nat.le_of_ble_eq_true rfl) Nat.one_ne_zero) ?_
      clear S; rintro h ⟨S, mo⟩; clear mo; simp only [List.set_cons_zero, List.set_cons_succ, vcells, lay, List.take, List.drop, List.nil_append, List.cons_append, List.append_nil, List.length_cons, List.length_nil, Nat.reduceAdd, Nat.add_zero] at S
      simp only [BS, Option.isSome_some, Nat.add_zero, Nat.reduceLT, Nat.reduceEqDiff, Nat.reduceAdd, if_true, if_false, List.map_cons, List.map_nil, List.length_cons, List.length_nil, List.set_cons_zero, List.set_cons_succ, List.getElem?_cons_zero, List.getElem?_cons_succ, Nat.zero_add, eq_self, Tryz.FFt3190, r3, S.ld (b := b5) (o := 0) (by first | exact m0 | exact m1 | exact m2 | exact m3 | exact m4 | exact m5 | exact m6 | exact m7) rfl, S.ld (b := b5) (o := 1) (by first | exact m0 | exact m1 | exact m2 | exact m3 | exact m4 | exact m5 | exact m6 | exact m7) rfl, S.ld (b := b5) (o := 2) (by first | exact m0 | exact m1 | exact m2 | exact m3 | exact m4 | exact m5 | exact m6 | exact m7) rfl]
      refine step_newS (bs_new (by first | exact Tryz.u25 | exact Tryz.u26 | exact Tryz.u257) (by first | exact Tryz.e2E | exact Tryz.e60E | exact Tryz.e228E) (by decide) (by first | rfl | exact fillE )) S ?_; clear S; intro h bl S n_bl; simp only [repL, setL, vcells, List.cons_append, List.nil_append, List.append_nil, List.set_cons_zero, List.set_cons_succ, Nat.reduceMul, Nat.reduceAdd, Nat.zero_mul, Nat.zero_add, Nat.mul_one, Nat.one_mul] at S
      simp only [BS, Nat.reduceLT, Nat.reduceEqDiff, if_true, if_false, Int.cast_ofNat_Int, eq_self, Tryz.FFt3190]
      have nF : bl ∉ F := fun hm => by have := s.lt _ hm; omega
      have R : Row h bl _ 1 := S.row m0
      have hbl := R.lt S.ok
      rw [run_unroll]
      simp only [BS, Nat.add_zero, Nat.reduceLT, Nat.reduceEqDiff, if_true, if_false, Int.reduceToNat, Int.reduceLE, Int.reduceLT, Int.cast_ofNat_Int, Nat.zero_mul, decide_true, eq_self, Tryz.FFt3190, S.lds (b := bl) (o := 0) (n := 6) (by first | exact m0 | exact m1 | exact m2 | exact m3 | exact m4 | exact m5 | exact m6 | exact m7) (Nat.le_of_ble_eq_true rfl)]
      refine step_newS allocR_new S ?_; clear S; intro h b7 S n_b7
      simp only [BS, Nat.reduceLT, Nat.reduceEqDiff, if_true, if_false, eq_self, List.drop_zero, List.take_succ_cons, List.take_zero]
      first | refine step_u (S.store (i := 0) rfl (by first | exact Tryz.s7 | exact Tryz.s8 | exact Tryz.s28 | exact Tryz.s60 | exact Tryz.s228) (by intro x e; cases e) rfl rfl (Nat.le_of_ble_eq_true rfl) Nat.one_ne_zero) ?_ | refine step_u (S.store (i := 1) rfl (by first | exact Tryz.s7 | exact Tryz.s8 | exact Tryz.s28 | exact Tryz.s60 | exact Tryz.s228) (by intro x e; cases e) rfl rfl (Nat.le_of_ble_eq_true rfl) Nat.one_ne_zero) ?_ | refine step_u (S.store (i := 2) rfl (by first | exact Tryz.s7 | exact Tryz.s8 | exact Tryz.s28 | exact Tryz.s60 | exact Tryz.s228) (by intro x e; cases e) rfl rfl (Nat.le_of_ble_eq_true rfl) Nat.one_ne_zero) ?_ | refine step_u (S.store (i := 3) rfl (by first | exact Tryz.s7 | exact Tryz.s8 | exact Tryz.s28 | exact Tryz.s60 | exact Tryz.s228) (by intro x e; cases e) rfl rfl (Nat.le_of_ble_eq_true rfl) Nat.one_ne_zero) ?_ | refine step_u (S.store (i := 4) rfl (by first | exact Tryz.s7 | exact Tryz.s8 | exact Tryz.s28 | exact Tryz.s60 | exact Tryz.s228) (by intro x e; cases e) rfl rfl (Nat.le_of_ble_eq_true rfl) Nat.one_ne_zero) ?_ | refine step_u (S.store (i := 5) rfl (by first | exact Tryz.s7 | exact Tryz.s8 | exact Tryz.s28 | exact Tryz.s60 | exact Tryz.s228) (by intro x e; cases e) rfl rfl (Nat.le_of_ble_eq_true rfl) Nat.one_ne_zero) ?_ | refine step_u (S.store (i := 6) rfl (by first | exact Tryz.s7 | exact Tryz.s8 | exact Tryz.s28 | exact Tryz.s60 | exact Tryz.s228) (by intro x e; cases e) rfl rfl (Nat.le_of_ble_eq_true rfl) Nat.one_ne_zero) ?_ | refine step_u (S.store (i := 7) rfl (by first | exact Tryz.s7 | exact Tryz.s8 | exact Tryz.s28 | exact Tryz.s60 | exact Tryz.s228) (by intro x e; cases e) rfl rfl (Nat.le_of_ble_eq_true rfl) Nat.one_ne_zero) ?_
      clear S; rintro h ⟨S, mo⟩; clear mo; simp only [List.set_cons_zero, List.set_cons_succ, vcells, lay, List.take, List.drop, List.nil_append, List.cons_append, List.append_nil, List.length_cons, List.length_nil, Nat.reduceAdd, Nat.add_zero] at S
      simp only [BS, Nat.reduceLT, Nat.reduceEqDiff, if_true, if_false, List.map_cons, List.map_nil, eq_self, Tryz.FFt3190, r0, S.lds (b := b7) (o := 0) (n := 6) (by first | exact m0 | exact m1 | exact m2 | exact m3 | exact m4 | exact m5 | exact m6 | exact m7) (Nat.le_of_ble_eq_true rfl)]
      have R : Row h bl _ 1 := S.row m1
      refine yield_step Y' (s.gr S.gr) (Y'.gr _ _ _ _ hj S.gr) (i := 3 * i) (by rw [List.getElem?_map, show (plA n A)[3 * i]? = _ from hp.1, hd]; simp [encP]) ?_ ?_ ?_
      · intro h2 F2 a s2 mo2 hF2
        have R0 := R
        replace R : Row h2 bl _ 1 := R.of_get (mo2.get _ (R.lt S.ok) nF)
        have nF2 : bl ∉ F2 := fun hm => by
          rcases hF2 _ hm with hm | hm
          · exact nF hm
          · have := R0.lt S.ok; omega
        have S := St.init (M := NoM) s2.ok
        simp only [BS, Nat.reduceLT, Nat.reduceEqDiff, if_true, if_false, Int.reduceAdd, Bool.not_true, eq_self, w1]
        rw [run_unroll]
        simp only [BS, Nat.reduceLT, Nat.reduceEqDiff, if_true, if_false, Int.reduceToNat, Int.reduceLE, Int.reduceLT, Int.cast_ofNat_Int, Nat.reduceMul, Nat.zero_add, decide_true, eq_self, Tryz.FFt3190, R.load (o := 6) (n := 6) (Nat.le_of_ble_eq_true rfl)]
        refine step_newS allocR_new S ?_; clear S; intro h b8 S n_b8
        simp only [BS, Nat.reduceLT, Nat.reduceEqDiff, if_true, if_false, eq_self, List.drop_succ_cons, List.drop_zero, List.take_succ_cons, List.take_zero]
        first | refine step_u (S.store (i := 0) rfl (by first | exact Tryz.s7 | exact Tryz.s8 | exact Tryz.s28 | exact Tryz.s60 | exact Tryz.s228) (by intro x e; cases e) rfl rfl (Nat.le_of_ble_eq_true rfl) Nat.one_ne_zero) ?_ | refine step_u (S.store (i := 1) rfl (by first | exact Tryz.s7 | exact Tryz.s8 | exact Tryz.s28 | exact Tryz.s60 | exact Tryz.s228) (by intro x e; cases e) rfl rfl (Nat.le_of_ble_eq_true rfl) Nat.one_ne_zero) ?_ | refine step_u (S.store (i := 2) rfl (by first | exact Tryz.s7 | exact Tryz.s8 | exact Tryz.s28 | exact Tryz.s60 | exact Tryz.s228) (by intro x e; cases e) rfl rfl (Nat.le_of_ble_eq_true rfl) Nat.one_ne_zero) ?_ | refine step_u (S.store (i := 3) rfl (by first | exact Tryz.s7 | exact Tryz.s8 | exact Tryz.s28 | exact Tryz.s60 | exact Tryz.s228) (by intro x e; cases e) rfl rfl (Nat.le_of_ble_eq_true rfl) Nat.one_ne_zero) ?_ | refine step_u (S.store (i := 4) rfl (by first | exact Tryz.s7 | exact Tryz.s8 | exact Tryz.s28 | exact Tryz.s60 | exact Tryz.s228) (by intro x e; cases e) rfl rfl (Nat.le_of_ble_eq_true rfl) Nat.one_ne_zero) ?_ | refine step_u (S.store (i := 5) rfl (by first | exact Tryz.s7 | exact Tryz.s8 | exact Tryz.s28 | exact Tryz.s60 | exact Tryz.s228) (by intro x e; cases e) rfl rfl (Nat.le_of_ble_eq_true rfl) Nat.one_ne_zero) ?_ | refine step_u (S.store (i := 6) rfl (by first | exact Tryz.s7 | exact Tryz.s8 | exact Tryz.s28 | exact Tryz.s60 | exact Tryz.s228) (by intro x e; cases e) rfl rfl (Nat.le_of_ble_eq_true rfl) Nat.one_ne_zero) ?_ | refine step_u (S.store (i := 7) rfl (by first | exact Tryz.s7 | exact Tryz.s8 | exact Tryz.s28 | exact Tryz.s60 | exact Tryz.s228) (by intro x e; cases e) rfl rfl (Nat.le_of_ble_eq_true rfl) Nat.one_ne_zero) ?_
        clear S; rintro h ⟨S, mo⟩; clear mo; simp only [List.set_cons_zero, List.set_cons_succ, vcells, lay, List.take, List.drop, List.nil_append, List.cons_append, List.append_nil, List.length_cons, List.length_nil, Nat.reduceAdd, Nat.add_zero] at S
        simp only [BS, Nat.reduceLT, Nat.reduceEqDiff, if_true, if_false, List.map_cons, List.map_nil, eq_self, Tryz.FFt3190, r0, S.lds (b := b8) (o := 0) (n := 6) (by first | exact m0 | exact m1 | exact m2 | exact m3 | exact m4 | exact m5 | exact m6 | exact m7) (Nat.le_of_ble_eq_true rfl)]
        replace R := R.gr S.gr
        refine yield_step Y' (s2.gr S.gr) (Y'.gr _ _ _ _ a S.gr) (i := 3 * i + 1) (by rw [List.getElem?_map, show (plA n A)[3 * i + 1]? = _ from hp.2.1, hd]; simp [encP]) ?_ ?_ ?_
        · intro h3 F3 a s3 mo3 hF3
          replace R : Row h3 bl _ 1 := R.of_get (mo3.get _ (R.lt S.ok) nF2)
          have S := St.init (M := NoM) s3.ok
          simp only [BS, Nat.reduceLT, Nat.reduceEqDiff, if_true, if_false, Int.reduceAdd, Bool.not_true, eq_self, w2]
          rw [run_unroll]
          simp only [BS, Nat.reduceLT, Nat.reduceEqDiff, if_true, if_false, Int.reduceToNat, Int.reduceLE, Int.reduceLT, Int.cast_ofNat_Int, Nat.reduceMul, Nat.zero_add, decide_true, eq_self, Tryz.FFt3190, R.load (o := 12) (n := 6) (Nat.le_of_ble_eq_true rfl)]
          refine step_newS allocR_new S ?_; clear S; intro h b9 S n_b9
          simp only [BS, Nat.reduceLT, Nat.reduceEqDiff, if_true, if_false, eq_self, List.drop_succ_cons, List.drop_zero, List.take_succ_cons, List.take_zero]
          first | refine step_u (S.store (i := 0) rfl (by first | exact Tryz.s7 | exact Tryz.s8 | exact Tryz.s28 | exact Tryz.s60 | exact Tryz.s228) (by intro x e; cases e) rfl rfl (Nat.le_of_ble_eq_true rfl) Nat.one_ne_zero) ?_ | refine step_u (S.store (i := 1) rfl (by first | exact Tryz.s7 | exact Tryz.s8 | exact Tryz.s28 | exact Tryz.s60 | exact Tryz.s228) (by intro x e; cases e) rfl rfl (Nat.le_of_ble_eq_true rfl) Nat.one_ne_zero) ?_ | refine step_u (S.store (i := 2) rfl (by first | exact Tryz.s7 | exact Tryz.s8 | exact Tryz.s28 | exact Tryz.s60 | exact Tryz.s228) (by intro x e; cases e) rfl rfl (Nat.le_of_ble_eq_true rfl) Nat.one_ne_zero) ?_ | refine step_u (S.store (i := 3) rfl (by first | exact Tryz.s7 | exact Tryz.s8 | exact Tryz.s28 | exact Tryz.s60 | exact Tryz.s228) (by intro x e; cases e) rfl rfl (Nat.le_of_ble_eq_true rfl) Nat.one_ne_zero) ?_ | refine step_u (S.store (i := 4) rfl (by first | exact Tryz.s7 | exact Tryz.s8 | exact Tryz.s28 | exact Tryz.s60 | exact Tryz.s228) (by intro x e; cases e) rfl rfl (Nat.le_of_ble_eq_true rfl) Nat.one_ne_zero) ?_ | refine step_u (S.store (i := 5) rfl (by first | exact Tryz.s7 | exact Tryz.s8 | exact Tryz.s28 | exact Tryz.s60 | exact Tryz.s228) (by intro x e; cases e) rfl rfl (Nat.le_of_ble_eq_true rfl) Nat.one_ne_zero) ?_ | refine step_u (S.store (i := 6) rfl (by first | exact Tryz.s7 | exact Tryz.s8 | exact Tryz.s28 | exact Tryz.s60 | exact Tryz.s228) (by intro x e; cases e) rfl rfl (Nat.le_of_ble_eq_true rfl) Nat.one_ne_zero) ?_ | refine step_u (S.store (i := 7) rfl (by first | exact Tryz.s7 | exact Tryz.s8 | exact Tryz.s28 | exact Tryz.s60 | exact Tryz.s228) (by intro x e; cases e) rfl rfl (Nat.le_of_ble_eq_true rfl) Nat.one_ne_zero) ?_
          clear S; rintro h ⟨S, mo⟩; clear mo; simp only [List.set_cons_zero, List.set_cons_succ, vcells, lay, List.take, List.drop, List.nil_append, List.cons_append, List.append_nil, List.length_cons, List.length_nil, Nat.reduceAdd, Nat.add_zero] at S
          simp only [BS, Nat.reduceLT, Nat.reduceEqDiff, if_true, if_false, List.map_cons, List.map_nil, eq_self, Tryz.FFt3190, r0, S.lds (b := b9) (o := 0) (n := 6) (by first | exact m0 | exact m1 | exact m2 | exact m3 | exact m4 | exact m5 | exact m6 | exact m7) (Nat.le_of_ble_eq_true rfl)]
          refine yield_step Y' (s3.gr S.gr) (Y'.gr _ _ _ _ a S.gr) (i := 3 * i + 2) (by rw [List.getElem?_map, show (plA n A)[3 * i + 2]? = _ from hp.2.2, hd]; simp [encP]) ?_ ?_ ?_
          · intro h4 F4 a s4 mo4 hF4
            simp only [BS, Nat.reduceLT, Nat.reduceEqDiff, if_true, if_false, Int.reduceAdd, Bool.not_true, eq_self, w3]
            rw [run_unroll]
            simp only [BS, Nat.reduceLT, Nat.reduceEqDiff, if_true, if_false, Int.reduceLT, decide_false, eq_self, r13, w]
            exact ih (i + 1) _ _ (by omega) ⟨by omega, F4, s4, a, by simp [setR, r0], by simp [setR, r3], by simp [setR, r11], by simp [setR, r12], by simp [setR]⟩
          · intro h' a _
            simp only [BS, Nat.reduceLT, Nat.reduceEqDiff, if_true, if_false, Bool.not_false, eq_self]
            exact leave_q rfl ⟨rfl, .inr (.inl ⟨_, rfl, a⟩)⟩
          · intro v h' a
            simp only [BS]
            exact leave_pan (un_nil ⟨rfl, .inr (.inr ⟨_, rfl, a⟩)⟩)
        · intro h' a _
          simp only [BS, Nat.reduceLT, Nat.reduceEqDiff, if_true, if_false, Bool.not_false, eq_self]
          exact leave_q rfl ⟨rfl, .inr (.inl ⟨_, rfl, a⟩)⟩
        · intro v h' a
          simp only [BS]
          exact leave_pan (un_nil ⟨rfl, .inr (.inr ⟨_, rfl, a⟩)⟩)
      · intro h' a _
        simp only [BS, Nat.reduceLT, Nat.reduceEqDiff, if_true, if_false, Bool.not_false, eq_self]
        exact leave_q rfl ⟨rfl, .inr (.inl ⟨_, rfl, a⟩)⟩
      · intro v h' a
        simp only [BS]
        exact leave_pan (un_nil ⟨rfl, .inr (.inr ⟨_, rfl, a⟩)⟩)
    · simp only [BS, Nat.reduceLT, if_true, decide_false, eq_self, r12, r13, lt_nat, hlt]
      have : i = A.length := by omega
      subst this
      exact leave_genN (un_nil ⟨rfl, _, rfl, rfl, .inl ⟨_, F, rfl, by simpa [plA_len] using hj⟩⟩)
  · exact ⟨by omega, F, s, hj, by simp [setR, argR], by simp [setR], by simp [setR], by simp [setR], by simp [setR]⟩
end Go.Ab

end
section
/- graph, run: Check. -/
set_option maxHeartbeats 4000000

set_option linter.unusedVariables false
namespace Go.Ab
open Go.Proofs
set_option maxRecDepth 10000
set_option linter.defProp false
def Tryz.FFt4161 := And.intro Tryz.a1 <| And.intro Tryz.s1 <| And.intro Tryz.z1 <| And.intro Tryz.n1 <| And.intro Tryz.u2 <| And.intro Tryz.a2 <| And.intro Tryz.s2 <| And.intro Tryz.z2 <| And.intro Tryz.i2 <| And.intro Tryz.u3 <| And.intro Tryz.a3 <| And.intro Tryz.s3 <| And.intro Tryz.z3 <| And.intro Tryz.i3 <| And.intro Tryz.u25 <| And.intro Tryz.a25 <| And.intro Tryz.s25 <| And.intro Tryz.z25 <| And.intro Tryz.q25 <| And.intro Tryz.n25 <| And.intro Tryz.u26 <| And.intro Tryz.a26 <| And.intro Tryz.s26 <| And.intro Tryz.z26 <| And.intro Tryz.q26 <| And.intro Tryz.n26 <| And.intro Tryz.a28 <| And.intro Tryz.s28 <| And.intro Tryz.z28 <| And.intro Tryz.i28 <| And.intro Tryz.n28 <| And.intro Tryz.p28 <| And.intro Tryz.ff28 <| And.intro Tryz.d28 <| And.intro Tryz.a60 <| And.intro Tryz.s60 <| And.intro Tryz.z60 <| And.intro Tryz.i60 <| And.intro Tryz.n60 <| And.intro Tryz.p60 <| And.intro Tryz.ff60 <| And.intro Tryz.d60 <| And.intro Tryz.u140 <| And.intro Tryz.a140 <| And.intro Tryz.s140 <| And.intro Tryz.z140 <| And.intro Tryz.i140 <| And.intro Tryz.a222 <| And.intro Tryz.s222 <| And.intro Tryz.z222 <| Tryz.n222
def Tryz.FFt4163 := And.intro Tryz.a1 <| And.intro Tryz.s1 <| And.intro Tryz.z1 <| And.intro Tryz.n1 <| And.intro Tryz.u2 <| And.intro Tryz.a2 <| And.intro Tryz.s2 <| And.intro Tryz.z2 <| And.intro Tryz.i2 <| And.intro Tryz.u3 <| And.intro Tryz.a3 <| And.intro Tryz.s3 <| And.intro Tryz.z3 <| And.intro Tryz.i3 <| And.intro Tryz.u25 <| And.intro Tryz.a25 <| And.intro Tryz.s25 <| And.intro Tryz.z25 <| And.intro Tryz.q25 <| And.intro Tryz.n25 <| And.intro Tryz.u26 <| And.intro Tryz.a26 <| And.intro Tryz.s26 <| And.intro Tryz.z26 <| And.intro Tryz.q26 <| And.intro Tryz.n26 <| And.intro Tryz.a28 <| And.intro Tryz.s28 <| And.intro Tryz.z28 <| And.intro Tryz.i28 <| And.intro Tryz.n28 <| And.intro Tryz.p28 <| And.intro Tryz.ff28 <| And.intro Tryz.d28 <| And.intro Tryz.a60 <| And.intro Tryz.s60 <| And.intro Tryz.z60 <| And.intro Tryz.i60 <| And.intro Tryz.n60 <| And.intro Tryz.p60 <| And.intro Tryz.ff60 <| And.intro Tryz.d60 <| And.intro Tryz.a222 <| And.intro Tryz.s222 <| And.intro Tryz.z222 <| Tryz.n222
def Tryz.FFt4167 := And.intro Tryz.a1 <| And.intro Tryz.s1 <| And.intro Tryz.z1 <| And.intro Tryz.n1 <| And.intro Tryz.u2 <| And.intro Tryz.a2 <| And.intro Tryz.s2 <| And.intro Tryz.z2 <| And.intro Tryz.i2 <| And.intro Tryz.u3 <| And.intro Tryz.a3 <| And.intro Tryz.s3 <| And.intro Tryz.z3 <| And.intro Tryz.i3 <| And.intro Tryz.u25 <| And.intro Tryz.a25 <| And.intro Tryz.s25 <| And.intro Tryz.z25 <| And.intro Tryz.q25 <| And.intro Tryz.n25 <| And.intro Tryz.u26 <| And.intro Tryz.a26 <| And.intro Tryz.s26 <| And.intro Tryz.z26 <| And.intro Tryz.q26 <| And.intro Tryz.n26 <| And.intro Tryz.a28 <| And.intro Tryz.s28 <| And.intro Tryz.z28 <| And.intro Tryz.i28 <| And.intro Tryz.n28 <| And.intro Tryz.p28 <| And.intro Tryz.ff28 <| And.intro Tryz.d28 <| And.intro Tryz.a60 <| And.intro Tryz.s60 <| And.intro Tryz.z60 <| And.intro Tryz.i60 <| And.intro Tryz.n60 <| And.intro Tryz.p60 <| And.intro Tryz.ff60 <| And.intro Tryz.d60 <| And.intro Tryz.u140 <| And.intro Tryz.a140 <| And.intro Tryz.s140 <| And.intro Tryz.z140 <| And.intro Tryz.i140 <| And.intro Tryz.a222 <| And.intro Tryz.s222 <| And.intro Tryz.z222 <| Tryz.n222
def Tryz.FFt4165 := And.intro Tryz.a1 <| And.intro Tryz.s1 <| And.intro Tryz.z1 <| And.intro Tryz.n1 <| And.intro Tryz.u2 <| And.intro Tryz.a2 <| And.intro Tryz.s2 <| And.intro Tryz.z2 <| And.intro Tryz.i2 <| And.intro Tryz.u3 <| And.intro Tryz.a3 <| And.intro Tryz.s3 <| And.intro Tryz.z3 <| And.intro Tryz.i3 <| And.intro Tryz.u25 <| And.intro Tryz.a25 <| And.intro Tryz.s25 <| And.intro Tryz.z25 <| And.intro Tryz.q25 <| And.intro Tryz.n25 <| And.intro Tryz.u26 <| And.intro Tryz.a26 <| And.intro Tryz.s26 <| And.intro Tryz.z26 <| And.intro Tryz.q26 <| And.intro Tryz.n26 <| And.intro Tryz.a28 <| And.intro Tryz.s28 <| And.intro Tryz.z28 <| And.intro Tryz.i28 <| And.intro Tryz.n28 <| And.intro Tryz.p28 <| And.intro Tryz.ff28 <| And.intro Tryz.d28 <| And.intro Tryz.a60 <| And.intro Tryz.s60 <| And.intro Tryz.z60 <| And.intro Tryz.i60 <| And.intro Tryz.n60 <| And.intro Tryz.p60 <| And.intro Tryz.ff60 <| And.intro Tryz.d60 <| And.intro Tryz.a222 <| And.intro Tryz.s222 <| And.intro Tryz.z222 <| Tryz.n222
def Tryz.FFt4168 := And.intro Tryz.a1 <| And.intro Tryz.s1 <| And.intro Tryz.z1 <| And.intro Tryz.n1 <| And.intro Tryz.u2 <| And.intro Tryz.a2 <| And.intro Tryz.s2 <| And.intro Tryz.z2 <| And.intro Tryz.i2 <| And.intro Tryz.u3 <| And.intro Tryz.a3 <| And.intro Tryz.s3 <| And.intro Tryz.z3 <| And.intro Tryz.i3 <| And.intro Tryz.u25 <| And.intro Tryz.a25 <| And.intro Tryz.s25 <| And.intro Tryz.z25 <| And.intro Tryz.q25 <| And.intro Tryz.n25 <| And.intro Tryz.u26 <| And.intro Tryz.a26 <| And.intro Tryz.s26 <| And.intro Tryz.z26 <| And.intro Tryz.q26 <| And.intro Tryz.n26 <| And.intro Tryz.a28 <| And.intro Tryz.s28 <| And.intro Tryz.z28 <| And.intro Tryz.i28 <| And.intro Tryz.n28 <| And.intro Tryz.p28 <| And.intro Tryz.ff28 <| And.intro Tryz.d28 <| And.intro Tryz.a60 <| And.intro Tryz.s60 <| And.intro Tryz.z60 <| And.intro Tryz.i60 <| And.intro Tryz.n60 <| And.intro Tryz.p60 <| And.intro Tryz.ff60 <| And.intro Tryz.d60 <| And.intro Tryz.a222 <| And.intro Tryz.s222 <| And.intro Tryz.z222 <| Tryz.n222
theorem look1_ok {h0 : Hp} (ok : h0.t.Sized h0.n) {γ : Gra} (hγ : Good γ) {vx vy va : Value} {b : Nat} (hb : Row h0 b [.int .i64 γ.nodes, vx, vy, va] 1) : Ret Tryz.abEnv 161 [ptrTo b] h0 fun v h' => Gr h0 h' ∧ TellR 0 h0.n v h' := by
  have S := St.init (M := NoM) ok
  have n1 := hγ.n1
  have n2 := hγ.n2
  refine enter_ret (n := 5) (rs := [.tmp 1]) rfl Tryz.e161 rfl rfl rfl (Nat.le_of_ble_eq_true rfl) ?_
  simp only [BS, Nat.add_zero, Nat.reduceLT, Nat.reduceEqDiff, if_true, if_false, List.map_cons, List.map_nil, List.append_nil, List.nil_append, eq_self, Tryz.FFt4161, hb.load1 (o := 0) rfl]
  refine step_ret (one_ok S.ok (by omega) (by omega)) ?_; intro v h ⟨g, t⟩; replace S := S.call g; clear g
  simp only [BS, tupleOf, Nat.reduceLT, Nat.reduceEqDiff, if_true, if_false, eq_self]
  exact ⟨S.gr, t⟩
theorem look2_ok {h0 : Hp} (ok : h0.t.Sized h0.n) {γ : Gra} (hγ : Good γ) {vx vy va : Value} (ga : GraphAt h0 vx vy va γ) {b : Nat} (hb : Row h0 b [.int .i64 γ.nodes, vx, vy, va] 1) : Ret Tryz.abEnv 163 [ptrTo b] h0 fun v h' => Gr h0 h' ∧ TellR 0 h0.n v h' := by
  have S := St.init (M := NoM) ok
  refine enter_ret (n := 4) (rs := [.tmp 1]) rfl Tryz.e163 rfl rfl rfl (Nat.le_of_ble_eq_true rfl) ?_
  simp only [BS, Nat.reduceLT, Nat.reduceEqDiff, if_true, if_false, List.map_cons, List.map_nil, List.append_nil, List.nil_append, eq_self, Tryz.FFt4163, hb.load (o := 0) (n := 4) (Nat.le_of_ble_eq_true rfl)]
  refine step_ret (shapes_ok S.ok hγ ga) ?_; intro v h ⟨g, t⟩; replace S := S.call g; clear g
  simp only [BS, tupleOf, Nat.reduceLT, Nat.reduceEqDiff, if_true, if_false, eq_self]
  exact ⟨S.gr, t⟩
theorem look4_ok {h0 : Hp} (ok : h0.t.Sized h0.n) {γ : Gra} (hγ : Good γ) {vx vy va : Value} (ga : GraphAt h0 vx vy va γ) {b : Nat} (hb : Row h0 b [.int .i64 γ.nodes, vx, vy, va] 1) : Ret Tryz.abEnv 167 [ptrTo b] h0 fun v h' => Gr h0 h' ∧ TellR 0 h0.n v h' := by
  have S := St.init (M := NoM) ok
  have n2 := hγ.many
  refine enter_ret (n := 6) (rs := [.tmp 1]) rfl Tryz.e167 rfl rfl rfl (Nat.le_of_ble_eq_true rfl) ?_
  simp only [BS, Nat.reduceLT, Nat.reduceEqDiff, if_true, if_false, List.map_cons, List.map_nil, List.append_nil, List.nil_append, Nat.zero_add, eq_self, Tryz.FFt4167, hb.load1 (o := 3) rfl, ga.A.lenq]
  refine step_ret (one_ok S.ok (by omega) (by omega)) ?_; intro v h ⟨g, t⟩; replace S := S.call g; clear g
  simp only [BS, tupleOf, Nat.reduceLT, Nat.reduceEqDiff, if_true, if_false, eq_self]
  exact ⟨S.gr, t⟩
theorem look3_ok {h0 : Hp} (ok : h0.t.Sized h0.n) {γ : Gra} (hγ : Good γ) {vx vy va : Value} (ga : GraphAt h0 vx vy va γ) {b n0 : Nat} (hX : ∀ c, blkOf vx c → c < n0) (hY : ∀ c, blkOf vy c → c < n0) (hb : Row h0 b [.int .i64 γ.nodes, vx, vy, va] 1) : Ret Tryz.abEnv 165 [ptrTo b] h0 fun v h' => Gr h0 h' ∧ TellR n0 h0.n v h' := by
  have S := St.init (M := NoM) ok
  have n2 := hγ.n2
  have lX := hγ.lX
  have lY := hγ.lY
  refine enter_ret (n := 4) (rs := [.tmp 1]) rfl Tryz.e165 rfl rfl rfl (Nat.le_of_ble_eq_true rfl) ?_
  simp only [BS, Nat.reduceLT, Nat.reduceEqDiff, if_true, if_false, List.map_cons, List.map_nil, List.append_nil, List.nil_append, eq_self, Tryz.FFt4165, hb.load (o := 0) (n := 4) (Nat.le_of_ble_eq_true rfl)]
  refine step_ret (nodes_ok S.ok) ?_; intro v h ⟨g, b2, e, q2, R⟩; replace S := S.call g; clear g
  subst e
  simp only [BS, tupleOf, Nat.reduceLT, Nat.reduceEqDiff, if_true, if_false, eq_self]
  refine ⟨S.gr, _, #[], #[ptrTo b2], _, _, rfl, nodes_iter S.ok R (ga.X.gr S.gr) (ga.Y.gr S.gr) (by omega) (by omega), fun p hp => ?_, fun c hc => ?_⟩
  · unfold plN at hp
    simp only [List.mem_flatMap, List.mem_range, List.mem_cons, List.not_mem_nil, or_false] at hp
    obtain ⟨i, hi, rfl | rfl⟩ := hp
    · have := hγ.cX γ.X[i] (List.getElem_mem hi)
      simp only [List.getD_eq_getElem?_getD, List.getElem?_eq_getElem hi, Option.getD_some]; omega
    · have hi' : i < γ.Y.length := by omega
      have := hγ.cY γ.Y[i] (List.getElem_mem hi')
      simp only [List.getD_eq_getElem?_getD, List.getElem?_eq_getElem hi', Option.getD_some]; omega
  · rcases hc with rfl | hc | hc
    · exact .inr q2
    · exact .inl (hX c hc)
    · exact .inl (hY c hc)
theorem look5_ok {h0 : Hp} (ok : h0.t.Sized h0.n) {γ : Gra} (hγ : Good γ) {vx vy va : Value} (ga : GraphAt h0 vx vy va γ) {b n0 : Nat} (hA : ∀ c, blkOf va c → c < n0) (hb : Row h0 b [.int .i64 γ.nodes, vx, vy, va] 1) : Ret Tryz.abEnv 168 [ptrTo b] h0 fun v h' => Gr h0 h' ∧ TellR n0 h0.n v h' := by
  have S := St.init (M := NoM) ok
  have n2 := hγ.many
  refine enter_ret (n := 4) (rs := [.tmp 1]) rfl Tryz.e168 rfl rfl rfl (Nat.le_of_ble_eq_true rfl) ?_
  simp only [BS, Nat.reduceLT, Nat.reduceEqDiff, if_true, if_false, List.map_cons, List.map_nil, List.append_nil, List.nil_append, eq_self, Tryz.FFt4168, hb.load (o := 0) (n := 4) (Nat.le_of_ble_eq_true rfl)]
  refine step_ret (arcs_ok S.ok) ?_; intro v h ⟨g, b2, e, q2, R⟩; replace S := S.call g; clear g
  subst e
  simp only [BS, tupleOf, Nat.reduceLT, Nat.reduceEqDiff, if_true, if_false, eq_self]
  refine ⟨S.gr, _, #[], #[ptrTo b2], _, _, rfl, arcs_iter S.ok R (ga.A.gr S.gr) (by omega), fun p hp => ?_, fun c hc => ?_⟩
  · unfold plA at hp
    simp only [List.mem_flatMap, List.mem_range, List.mem_cons, List.not_mem_nil, or_false] at hp
    obtain ⟨i, hi, h⟩ := hp
    have := hγ.arcs γ.arcs[i] (List.getElem_mem hi)
    simp only [List.getD_eq_getElem?_getD, List.getElem?_eq_getElem hi, Option.getD_some] at h
    rcases h with rfl | rfl | rfl <;> (simp only []; omega)
  · rcases hc with rfl | hc
    · exact .inr q2
    · exact .inl (hA c hc)
end Go.Ab

end
section
/- graph, run: look, Check. -/
set_option maxHeartbeats 4000000

set_option linter.unusedVariables false
namespace Go.Ab
open Go.Proofs
set_option maxRecDepth 10000
set_option linter.defProp false
def Tryz.FFt5133 := And.intro Tryz.a1 <| And.intro Tryz.s1 <| And.intro Tryz.z1 <| And.intro Tryz.n1 <| And.intro Tryz.u2 <| And.intro Tryz.a2 <| And.intro Tryz.s2 <| And.intro Tryz.z2 <| And.intro Tryz.i2 <| And.intro Tryz.u3 <| And.intro Tryz.a3 <| And.intro Tryz.s3 <| And.intro Tryz.z3 <| And.intro Tryz.i3 <| And.intro Tryz.u4 <| And.intro Tryz.a4 <| And.intro Tryz.s4 <| And.intro Tryz.z4 <| And.intro Tryz.n4 <| And.intro Tryz.u5 <| And.intro Tryz.a5 <| And.intro Tryz.s5 <| And.intro Tryz.z5 <| And.intro Tryz.i5 <| And.intro Tryz.u6 <| And.intro Tryz.a6 <| And.intro Tryz.s6 <| And.intro Tryz.z6 <| And.intro Tryz.i6 <| And.intro Tryz.a7 <| And.intro Tryz.s7 <| And.intro Tryz.z7 <| And.intro Tryz.i7 <| And.intro Tryz.n7 <| And.intro Tryz.p7 <| And.intro Tryz.ff7 <| And.intro Tryz.d7 <| And.intro Tryz.a8 <| And.intro Tryz.s8 <| And.intro Tryz.z8 <| And.intro Tryz.i8 <| And.intro Tryz.n8 <| And.intro Tryz.p8 <| And.intro Tryz.ff8 <| And.intro Tryz.d8 <| And.intro Tryz.u17 <| And.intro Tryz.a17 <| And.intro Tryz.s17 <| And.intro Tryz.z17 <| And.intro Tryz.q17 <| And.intro Tryz.i17 <| And.intro Tryz.n17 <| And.intro Tryz.a19 <| And.intro Tryz.s19 <| And.intro Tryz.z19 <| And.intro Tryz.i19 <| And.intro Tryz.n19 <| And.intro Tryz.p19 <| And.intro Tryz.ff19 <| And.intro Tryz.d19 <| And.intro Tryz.a20 <| And.intro Tryz.s20 <| And.intro Tryz.z20 <| And.intro Tryz.q20 <| And.intro Tryz.n20 <| And.intro Tryz.u25 <| And.intro Tryz.a25 <| And.intro Tryz.s25 <| And.intro Tryz.z25 <| And.intro Tryz.q25 <| And.intro Tryz.n25 <| And.intro Tryz.u26 <| And.intro Tryz.a26 <| And.intro Tryz.s26 <| And.intro Tryz.z26 <| And.intro Tryz.q26 <| And.intro Tryz.n26 <| And.intro Tryz.a28 <| And.intro Tryz.s28 <| And.intro Tryz.z28 <| And.intro Tryz.i28 <| And.intro Tryz.n28 <| And.intro Tryz.p28 <| And.intro Tryz.ff28 <| And.intro Tryz.d28 <| And.intro Tryz.a60 <| And.intro Tryz.s60 <| And.intro Tryz.z60 <| And.intro Tryz.i60 <| And.intro Tryz.n60 <| And.intro Tryz.p60 <| And.intro Tryz.ff60 <| And.intro Tryz.d60 <| And.intro Tryz.u140 <| And.intro Tryz.a140 <| And.intro Tryz.s140 <| And.intro Tryz.z140 <| And.intro Tryz.i140 <| And.intro Tryz.a142 <| And.intro Tryz.s142 <| And.intro Tryz.z142 <| And.intro Tryz.i142 <| And.intro Tryz.n142 <| And.intro Tryz.p142 <| And.intro Tryz.ff142 <| And.intro Tryz.d142 <| And.intro Tryz.u144 <| And.intro Tryz.a144 <| And.intro Tryz.s144 <| And.intro Tryz.z144 <| And.intro Tryz.q144 <| And.intro Tryz.i144 <| And.intro Tryz.n144 <| And.intro Tryz.a189 <| And.intro Tryz.s189 <| And.intro Tryz.z189 <| And.intro Tryz.i189 <| And.intro Tryz.n189 <| And.intro Tryz.p189 <| And.intro Tryz.ff189 <| And.intro Tryz.d189 <| And.intro Tryz.a222 <| And.intro Tryz.s222 <| And.intro Tryz.z222 <| And.intro Tryz.n222 <| And.intro Tryz.a224 <| And.intro Tryz.s224 <| And.intro Tryz.z224 <| And.intro Tryz.n224 <| And.intro Tryz.u226 <| And.intro Tryz.a226 <| And.intro Tryz.s226 <| And.intro Tryz.z226 <| And.intro Tryz.q226 <| And.intro Tryz.n226 <| And.intro Tryz.a228 <| And.intro Tryz.s228 <| And.intro Tryz.z228 <| And.intro Tryz.i228 <| And.intro Tryz.n228 <| And.intro Tryz.p228 <| And.intro Tryz.ff228 <| And.intro Tryz.d228 <| And.intro Tryz.a286 <| And.intro Tryz.s286 <| And.intro Tryz.z286 <| And.intro Tryz.i286 <| And.intro Tryz.n286 <| And.intro Tryz.p286 <| And.intro Tryz.ff286 <| Tryz.d286
theorem look_ok {h0 : Hp} (ok : h0.t.Sized h0.n) {γ : Gra} (hγ : Good γ) {vx vy va : Value} (ga : GraphAt h0 vx vy va γ) : Ret Tryz.abEnv 133 [rawV γ vx vy va] h0 fun v h' => Gr h0 h' := by
  have S := St.init (M := NoM) ok
  refine enter_ret (n := 44) (rs := []) rfl Tryz.e133 rfl rfl rfl (Nat.le_of_ble_eq_true rfl) ?_
  simp only [BS, Nat.reduceLT, rawV]
  refine step_newS (box_new (by intro x e; cases e)) S ?_; clear S; intro h b S n_b; simp only [vcells] at S
  simp only [BS, Nat.reduceLT, Nat.reduceEqDiff, if_true, if_false, List.map_cons, List.map_nil, List.map_toArray, eq_self]
  refine step_newS (bs_new (by first | exact Tryz.u25 | exact Tryz.u26 | exact Tryz.u226) (by first | exact Tryz.e2E | exact Tryz.e60E | exact Tryz.e224E) (by decide) (by first | rfl | exact fillE )) S ?_; clear S; intro h bs S n_bs; simp only [repL, setL, vcells, List.cons_append, List.nil_append, List.append_nil, List.set_cons_zero, List.set_cons_succ, Nat.reduceMul, Nat.reduceAdd, Nat.zero_mul, Nat.zero_add, Nat.mul_one, Nat.one_mul] at S
  simp only [BS, Nat.reduceLT, Nat.reduceEqDiff, if_true, if_false, Int.cast_ofNat_Int, eq_self, Tryz.FFt5133]
  have hq : ∀ i, i < 5 → ∃ g a c, [Value.func (.func 161) #[] #[.pointer (some ⟨b, 0, none⟩)], .func (.func 163) #[] #[.pointer (some ⟨b, 0, none⟩)], .func (.func 165) #[] #[.pointer (some ⟨b, 0, none⟩)], .func (.func 167) #[] #[.pointer (some ⟨b, 0, none⟩)], .func (.func 168) #[] #[.pointer (some ⟨b, 0, none⟩)]][i]? = some (.func (.func g) a c) ∧
      ∀ h', Gr h h' → Ret Tryz.abEnv g (a.toList ++ c.toList) h' fun v h'' => Gr h' h'' ∧ TellR h0.n h'.n v h'' := by
    intro i hi
    have hr := S.row (b := b) m1
    have ga' := ga.gr S.gr
    have wk : ∀ h' v h'', Gr h' h'' ∧ TellR 0 h'.n v h'' → Gr h' h'' ∧ TellR h0.n h'.n v h'' := by
      rintro h' v h'' ⟨a, gi, a1, a2, ps, D, b1, b2, b3, b4⟩
      exact ⟨a, gi, a1, a2, ps, D, b1, b2, b3, fun c hc => (b4 c hc).elim (fun h => by omega) .inr⟩
    match i, hi with
    | 0, _ => exact ⟨_, _, _, rfl, fun h' g => ret_mono (look1_ok g.ok hγ (hr.gr g)) (wk h')⟩
    | 1, _ => exact ⟨_, _, _, rfl, fun h' g => ret_mono (look2_ok g.ok hγ (ga'.gr g) (hr.gr g)) (wk h')⟩
    | 2, _ => exact ⟨_, _, _, rfl, fun h' g => look3_ok g.ok hγ (ga'.gr g) (fun c hc => ga.X.lt ok hc) (fun c hc => ga.Y.lt ok hc) (hr.gr g)⟩
    | 3, _ => exact ⟨_, _, _, rfl, fun h' g => ret_mono (look4_ok g.ok hγ (ga'.gr g) (hr.gr g)) (wk h')⟩
    | 4, _ => exact ⟨_, _, _, rfl, fun h' g => look5_ok g.ok hγ (ga'.gr g) (fun c hc => ga.A.lt ok hc) (hr.gr g)⟩
  have Rs := S.row (b := bs) m0
  have g0 := S.gr
  have ok1 := S.ok
  clear S ga ok
  revert hq Rs
  generalize [Value.func (.func 161) #[] #[.pointer (some ⟨b, 0, none⟩)], .func (.func 163) #[] #[.pointer (some ⟨b, 0, none⟩)], .func (.func 165) #[] #[.pointer (some ⟨b, 0, none⟩)], .func (.func 167) #[] #[.pointer (some ⟨b, 0, none⟩)], .func (.func 168) #[] #[.pointer (some ⟨b, 0, none⟩)]] = fs
  intro hq Rs
  rename Hp => h1
  have lt1 := Rs.lt ok1
  have ge1 := g0.n
  have S := St.init (M := NoM) ok1
  refine loop_indD (fun (i : Nat) ρ d h' => i ≤ 5 ∧ ∃ dbs : List Nat, d = dbs.map dfrOf ∧ St NoM h1 h' (dfrL dbs) [] ∧ ρ 10 = .slice (some ⟨bs, 0, none⟩) 5 5 ∧ ρ 11 = .int .i64 5 ∧ ρ 12 = .int .i64 i) (fun i => 5 - i) ?_ 0 _ _ _ ?_
  · clear S
    intro i ih ρ d h ⟨hi, dbs, hd, S, r10, r11, r12⟩
    have w : wrapI .i64 ((i : Int) + 1) = ((i + 1 : Nat) : Int) := by rw [wrap64] <;> omega
    by_cases hlt : i < 5
    · obtain ⟨g, a, c, hfi, hr⟩ := hq i hlt
      have Rl := (Rs.gr S.gr).load1 hfi
      have hlt' : (i : Int) < 5 := by omega
      simp only [BS, Nat.reduceLT, Nat.reduceEqDiff, if_true, if_false, Nat.mul_one, Nat.zero_add, decide_true, eq_self, Tryz.FFt5133, r10, r11, r12, hlt', hlt, Rl]
      refine step_newS allocR_new S ?_; clear S; intro h b2 S n_b2
      simp only [BS, Nat.reduceLT, Nat.reduceEqDiff, if_true, if_false, eq_self]
      first | refine step_u (store_fl S (i := 0) rfl (by simp only [Tryz.FFt5133]) (by first | exact fl_int | exact fl_slice | exact fl_ptr | exact fl_bool | exact fl_map | exact fl_func | exact fl_nili | exact fl_iface | exact fl_nilf | exact fl_str | assumption) (Nat.lt_of_succ_le (Nat.le_of_ble_eq_true rfl)) Nat.one_ne_zero) ?_ | refine step_u (store_fl S (i := 1) rfl (by simp only [Tryz.FFt5133]) (by first | exact fl_int | exact fl_slice | exact fl_ptr | exact fl_bool | exact fl_map | exact fl_func | exact fl_nili | exact fl_iface | exact fl_nilf | exact fl_str | assumption) (Nat.lt_of_succ_le (Nat.le_of_ble_eq_true rfl)) Nat.one_ne_zero) ?_ | refine step_u (store_fl S (i := 2) rfl (by simp only [Tryz.FFt5133]) (by first | exact fl_int | exact fl_slice | exact fl_ptr | exact fl_bool | exact fl_map | exact fl_func | exact fl_nili | exact fl_iface | exact fl_nilf | exact fl_str | assumption) (Nat.lt_of_succ_le (Nat.le_of_ble_eq_true rfl)) Nat.one_ne_zero) ?_ | refine step_u (store_fl S (i := 3) rfl (by simp only [Tryz.FFt5133]) (by first | exact fl_int | exact fl_slice | exact fl_ptr | exact fl_bool | exact fl_map | exact fl_func | exact fl_nili | exact fl_iface | exact fl_nilf | exact fl_str | assumption) (Nat.lt_of_succ_le (Nat.le_of_ble_eq_true rfl)) Nat.one_ne_zero) ?_ | refine step_u (store_fl S (i := 4) rfl (by simp only [Tryz.FFt5133]) (by first | exact fl_int | exact fl_slice | exact fl_ptr | exact fl_bool | exact fl_map | exact fl_func | exact fl_nili | exact fl_iface | exact fl_nilf | exact fl_str | assumption) (Nat.lt_of_succ_le (Nat.le_of_ble_eq_true rfl)) Nat.one_ne_zero) ?_ | refine step_u (store_fl S (i := 5) rfl (by simp only [Tryz.FFt5133]) (by first | exact fl_int | exact fl_slice | exact fl_ptr | exact fl_bool | exact fl_map | exact fl_func | exact fl_nili | exact fl_iface | exact fl_nilf | exact fl_str | assumption) (Nat.lt_of_succ_le (Nat.le_of_ble_eq_true rfl)) Nat.one_ne_zero) ?_ | refine step_u (store_fl S (i := 6) rfl (by simp only [Tryz.FFt5133]) (by first | exact fl_int | exact fl_slice | exact fl_ptr | exact fl_bool | exact fl_map | exact fl_func | exact fl_nili | exact fl_iface | exact fl_nilf | exact fl_str | assumption) (Nat.lt_of_succ_le (Nat.le_of_ble_eq_true rfl)) Nat.one_ne_zero) ?_ | refine step_u (store_fl S (i := 7) rfl (by simp only [Tryz.FFt5133]) (by first | exact fl_int | exact fl_slice | exact fl_ptr | exact fl_bool | exact fl_map | exact fl_func | exact fl_nili | exact fl_iface | exact fl_nilf | exact fl_str | assumption) (Nat.lt_of_succ_le (Nat.le_of_ble_eq_true rfl)) Nat.one_ne_zero) ?_
      clear S; rintro h ⟨S, mo⟩; clear mo; simp only [List.set_cons_zero, List.set_cons_succ, vcells, lay, List.take, List.drop, List.nil_append, List.cons_append, List.append_nil, List.length_cons, List.length_nil, Nat.reduceAdd, Nat.add_zero] at S
      simp only [BS, Nat.reduceLT, Nat.reduceEqDiff, if_true, if_false, List.map_nil, List.append_nil, eq_self]
      replace S := S.drop1
      have kl : ∀ b ∈ keys (dfrL dbs) [], b < h.n := fun b hb => S.key_lt hb
      refine step_ret (hr _ S.gr) ?_; intro v h ⟨g, gi, a2, post, ps, D, e, it, hps, hD⟩; replace S := S.call g; clear g
      subst e
      simp only [BS]
      refine run_range S (g := gi) (a := a2) (b := post) (by simp [ll_tmp, setR]) rfl rfl ?_
      intro h2 db lb S' hdb hlb g2
      obtain ⟨X, hX, S'⟩ : ∃ X : ALoop, X = _ ∧ St NoM h1 h2 ((lb, .loop X) :: (db, .dfr) :: dfrL dbs) [] := ⟨_, rfl, S'⟩
      have hJ : Yld Tryz.abEnv lb (fun _ h' F => St NoM h1 h' ((lb, .loop X) :: (db, .dfr) :: dfrL dbs) [] ∧ F = keys ((lb, .loop X) :: (db, .dfr) :: dfrL dbs) []) (fun _ _ => False) (ps.map fun p => [.agg ⟨encP p⟩]) := by
        refine ⟨?_, ?_, fun _ _ h => h.elim, ?_⟩
        · rintro i h F ⟨S, rfl⟩; exact ⟨S.ok, fun b hb => S.key_lt hb⟩
        · rintro i h F h' ⟨S, rfl⟩ g; exact ⟨S.call g, rfl⟩
        · rintro i x h F hx ⟨S, rfl⟩
          obtain ⟨p, hp, rfl⟩ : ∃ p ∈ ps, x = [.agg ⟨encP p⟩] := by
            rw [List.getElem?_map, Option.map_eq_some_iff] at hx
            obtain ⟨p, h1, h2⟩ := hx
            exact ⟨p, List.mem_of_getElem? h1, h2.symm⟩
          obtain ⟨p1, p2⟩ := hps p hp
          have p1' : ¬ p.n < p.lo := by omega
          have p2' : ¬ p.hi ≤ p.n := by omega
          subst hX
          refine round_run (S.get m0) (by rw [Tryz.e133]; rfl) rfl ?_
          have S0 := S
          replace S := S.base
          simp only [BS, Tryz.FFt5133]
          refine step_newS allocR_new S ?_; clear S; intro h b4 S n_b4
          simp only [BS, Nat.reduceLT, Nat.reduceEqDiff, if_true, if_false, eq_self, encP]
          first | refine step_u (S.store (i := 0) rfl (by first | exact Tryz.s7 | exact Tryz.s8 | exact Tryz.s19 | exact Tryz.s28 | exact Tryz.s60 | exact Tryz.s142 | exact Tryz.s189 | exact Tryz.s228 | exact Tryz.s286) (by intro x e; cases e) rfl rfl (Nat.le_of_ble_eq_true rfl) Nat.one_ne_zero) ?_ | refine step_u (S.store (i := 1) rfl (by first | exact Tryz.s7 | exact Tryz.s8 | exact Tryz.s19 | exact Tryz.s28 | exact Tryz.s60 | exact Tryz.s142 | exact Tryz.s189 | exact Tryz.s228 | exact Tryz.s286) (by intro x e; cases e) rfl rfl (Nat.le_of_ble_eq_true rfl) Nat.one_ne_zero) ?_ | refine step_u (S.store (i := 2) rfl (by first | exact Tryz.s7 | exact Tryz.s8 | exact Tryz.s19 | exact Tryz.s28 | exact Tryz.s60 | exact Tryz.s142 | exact Tryz.s189 | exact Tryz.s228 | exact Tryz.s286) (by intro x e; cases e) rfl rfl (Nat.le_of_ble_eq_true rfl) Nat.one_ne_zero) ?_ | refine step_u (S.store (i := 3) rfl (by first | exact Tryz.s7 | exact Tryz.s8 | exact Tryz.s19 | exact Tryz.s28 | exact Tryz.s60 | exact Tryz.s142 | exact Tryz.s189 | exact Tryz.s228 | exact Tryz.s286) (by intro x e; cases e) rfl rfl (Nat.le_of_ble_eq_true rfl) Nat.one_ne_zero) ?_ | refine step_u (S.store (i := 4) rfl (by first | exact Tryz.s7 | exact Tryz.s8 | exact Tryz.s19 | exact Tryz.s28 | exact Tryz.s60 | exact Tryz.s142 | exact Tryz.s189 | exact Tryz.s228 | exact Tryz.s286) (by intro x e; cases e) rfl rfl (Nat.le_of_ble_eq_true rfl) Nat.one_ne_zero) ?_ | refine step_u (S.store (i := 5) rfl (by first | exact Tryz.s7 | exact Tryz.s8 | exact Tryz.s19 | exact Tryz.s28 | exact Tryz.s60 | exact Tryz.s142 | exact Tryz.s189 | exact Tryz.s228 | exact Tryz.s286) (by intro x e; cases e) rfl rfl (Nat.le_of_ble_eq_true rfl) Nat.one_ne_zero) ?_ | refine step_u (S.store (i := 6) rfl (by first | exact Tryz.s7 | exact Tryz.s8 | exact Tryz.s19 | exact Tryz.s28 | exact Tryz.s60 | exact Tryz.s142 | exact Tryz.s189 | exact Tryz.s228 | exact Tryz.s286) (by intro x e; cases e) rfl rfl (Nat.le_of_ble_eq_true rfl) Nat.one_ne_zero) ?_ | refine step_u (S.store (i := 7) rfl (by first | exact Tryz.s7 | exact Tryz.s8 | exact Tryz.s19 | exact Tryz.s28 | exact Tryz.s60 | exact Tryz.s142 | exact Tryz.s189 | exact Tryz.s228 | exact Tryz.s286) (by intro x e; cases e) rfl rfl (Nat.le_of_ble_eq_true rfl) Nat.one_ne_zero) ?_
          clear S; rintro h ⟨S, mo⟩; clear mo; simp only [List.set_cons_zero, List.set_cons_succ, vcells, lay, List.take, List.drop, List.nil_append, List.cons_append, List.append_nil, List.length_cons, List.length_nil, Nat.reduceAdd, Nat.add_zero] at S
          simp only [BS]
          refine assign_end S (i := 1) rfl rfl rfl rfl rfl ?_
          clear S; intro h S
          simp only [BS, Nat.reduceLT, Nat.reduceEqDiff, if_true, if_false, List.getElem?_cons_zero, List.getElem?_cons_succ, Nat.zero_add, Bool.not_false, decide_false, eq_self, Tryz.FFt5133, p1', p2', S.ld (b := b4) (o := 3) (by first | exact m0 | exact m1 | exact m2 | exact m3 | exact m4 | exact m5 | exact m6 | exact m7) rfl, S.ld (b := b4) (o := 4) (by first | exact m0 | exact m1 | exact m2 | exact m3 | exact m4 | exact m5 | exact m6 | exact m7) rfl, S.ld (b := b4) (o := 5) (by first | exact m0 | exact m1 | exact m2 | exact m3 | exact m4 | exact m5 | exact m6 | exact m7) rfl]
          refine round_normal S (i := 1) rfl ?_
          clear S; intro h S
          exact .inl ⟨rfl, _, ⟨S0.rebase S.drop1, rfl⟩, S.fr, S.drop1.key_new⟩
      refine callq_mono (iter_use it hJ (h := h2) (F := keys ((lb, .loop _) :: (db, .dfr) :: dfrL dbs) []) g2.fr (fun b hb hlt => ?_) ⟨S', rfl⟩) fun o rc h' y => range_all y ?_
      · intro hd
        have hS := S'.key_own hb
        rcases hD b hd with hh | hh
        · rcases hS with hS | hS
          · omega
          · exact hS
        · rcases List.mem_cons.1 hb with rfl | hb
          · omega
          · rcases List.mem_cons.1 hb with rfl | hb
            · omega
            · have := kl b hb; omega
      · rintro F ⟨S, rfl⟩
        subst hX
        refine ⟨_, S.get m0, Nat.zero_ne_one, ?_⟩
        replace S := S.dead
        show Run _ _ _ _ _ _ _ _
        simp only [BS, Nat.reduceLT, Nat.reduceEqDiff, if_true, if_false, eq_self, r12, w]
        exact ih (i + 1) _ _ _ (by omega) ⟨by omega, db :: dbs, by rw [hd]; rfl, S, by simp [setR, r10], by simp [setR, r11], by simp [setR]⟩
    · have hlt' : ¬ (i : Int) < 5 := by omega
      simp only [BS, Nat.reduceLT, if_true, decide_false, eq_self, r11, r12, hlt']
      subst hd
      refine leave_genN (un_dfrs dbs h (L := []) (by rw [List.append_nil]; exact S) fun h' S' => ⟨rfl, _, rfl, g0.trans S'.gr⟩)
  · exact ⟨by omega, [], rfl, S, by simp [setR], by simp [setR], by simp [setR]⟩
end Go.Ab

end
section
/- graph.Check, net.own. -/
set_option maxHeartbeats 4000000

set_option linter.unusedVariables false
namespace Go.Ab
open Go.Proofs
set_option maxRecDepth 10000
set_option linter.defProp false
def Tryz.FFt6132 := And.intro Tryz.a1 <| And.intro Tryz.s1 <| And.intro Tryz.z1 <| And.intro Tryz.n1 <| And.intro Tryz.u2 <| And.intro Tryz.a2 <| And.intro Tryz.s2 <| And.intro Tryz.z2 <| And.intro Tryz.i2 <| And.intro Tryz.u3 <| And.intro Tryz.a3 <| And.intro Tryz.s3 <| And.intro Tryz.z3 <| And.intro Tryz.i3 <| And.intro Tryz.u4 <| And.intro Tryz.a4 <| And.intro Tryz.s4 <| And.intro Tryz.z4 <| And.intro Tryz.n4 <| And.intro Tryz.u5 <| And.intro Tryz.a5 <| And.intro Tryz.s5 <| And.intro Tryz.z5 <| And.intro Tryz.i5 <| And.intro Tryz.a20 <| And.intro Tryz.s20 <| And.intro Tryz.z20 <| And.intro Tryz.q20 <| And.intro Tryz.n20 <| And.intro Tryz.a87 <| And.intro Tryz.s87 <| And.intro Tryz.z87 <| And.intro Tryz.q87 <| And.intro Tryz.n87 <| And.intro Tryz.a142 <| And.intro Tryz.s142 <| And.intro Tryz.z142 <| And.intro Tryz.i142 <| And.intro Tryz.n142 <| And.intro Tryz.p142 <| And.intro Tryz.ff142 <| And.intro Tryz.d142 <| And.intro Tryz.u144 <| And.intro Tryz.a144 <| And.intro Tryz.s144 <| And.intro Tryz.z144 <| And.intro Tryz.q144 <| And.intro Tryz.i144 <| And.intro Tryz.n144 <| And.intro Tryz.a189 <| And.intro Tryz.s189 <| And.intro Tryz.z189 <| And.intro Tryz.i189 <| And.intro Tryz.n189 <| And.intro Tryz.p189 <| And.intro Tryz.ff189 <| Tryz.d189
def Tryz.FFt694 := And.intro Tryz.a1 <| And.intro Tryz.s1 <| And.intro Tryz.z1 <| And.intro Tryz.n1 <| And.intro Tryz.u2 <| And.intro Tryz.a2 <| And.intro Tryz.s2 <| And.intro Tryz.z2 <| And.intro Tryz.i2 <| And.intro Tryz.u3 <| And.intro Tryz.a3 <| And.intro Tryz.s3 <| And.intro Tryz.z3 <| And.intro Tryz.i3 <| And.intro Tryz.u25 <| And.intro Tryz.a25 <| And.intro Tryz.s25 <| And.intro Tryz.z25 <| And.intro Tryz.q25 <| And.intro Tryz.n25 <| And.intro Tryz.u26 <| And.intro Tryz.a26 <| And.intro Tryz.s26 <| And.intro Tryz.z26 <| And.intro Tryz.q26 <| And.intro Tryz.n26 <| And.intro Tryz.a28 <| And.intro Tryz.s28 <| And.intro Tryz.z28 <| And.intro Tryz.i28 <| And.intro Tryz.n28 <| And.intro Tryz.p28 <| And.intro Tryz.ff28 <| And.intro Tryz.d28 <| And.intro Tryz.a60 <| And.intro Tryz.s60 <| And.intro Tryz.z60 <| And.intro Tryz.i60 <| And.intro Tryz.n60 <| And.intro Tryz.p60 <| And.intro Tryz.ff60 <| And.intro Tryz.d60 <| And.intro Tryz.a87 <| And.intro Tryz.s87 <| And.intro Tryz.z87 <| And.intro Tryz.q87 <| Tryz.n87
def Tryz.FFt6114 := And.intro Tryz.a1 <| And.intro Tryz.s1 <| And.intro Tryz.z1 <| And.intro Tryz.n1 <| And.intro Tryz.u2 <| And.intro Tryz.a2 <| And.intro Tryz.s2 <| And.intro Tryz.z2 <| And.intro Tryz.i2 <| And.intro Tryz.u3 <| And.intro Tryz.a3 <| And.intro Tryz.s3 <| And.intro Tryz.z3 <| And.intro Tryz.i3 <| And.intro Tryz.u4 <| And.intro Tryz.a4 <| And.intro Tryz.s4 <| And.intro Tryz.z4 <| And.intro Tryz.n4 <| And.intro Tryz.u25 <| And.intro Tryz.a25 <| And.intro Tryz.s25 <| And.intro Tryz.z25 <| And.intro Tryz.q25 <| Tryz.n25
def Tryz.FFt6138 := And.intro Tryz.a1 <| And.intro Tryz.s1 <| And.intro Tryz.z1 <| And.intro Tryz.n1 <| And.intro Tryz.u2 <| And.intro Tryz.a2 <| And.intro Tryz.s2 <| And.intro Tryz.z2 <| And.intro Tryz.i2 <| And.intro Tryz.u3 <| And.intro Tryz.a3 <| And.intro Tryz.s3 <| And.intro Tryz.z3 <| And.intro Tryz.i3 <| And.intro Tryz.u4 <| And.intro Tryz.a4 <| And.intro Tryz.s4 <| And.intro Tryz.z4 <| And.intro Tryz.n4 <| And.intro Tryz.u26 <| And.intro Tryz.a26 <| And.intro Tryz.s26 <| And.intro Tryz.z26 <| And.intro Tryz.q26 <| And.intro Tryz.n26 <| And.intro Tryz.a60 <| And.intro Tryz.s60 <| And.intro Tryz.z60 <| And.intro Tryz.i60 <| And.intro Tryz.n60 <| And.intro Tryz.p60 <| And.intro Tryz.ff60 <| Tryz.d60
theorem check1_ok {h0 : Hp} (ok : h0.t.Sized h0.n) {b : Nat} : CallQ Tryz.abEnv 132 [ptrTo b] none h0 fun o rc h' => (∃ v, o = .ret v) ∧ rc = none ∧ Gr h0 h' := by
  have S := St.init (M := NoM) ok
  refine enter (n := 17) (rs := []) rfl Tryz.e132 rfl rfl rfl (Nat.le_of_ble_eq_true rfl) ?_
  simp only [BS, Nat.reduceLT, Nat.reduceEqDiff, if_true, if_false, true_and, eq_self, Tryz.FFt6132]
  exact leave_genN (un_nil ⟨rfl, _, rfl, ⟨_, rfl⟩, rfl, S.gr⟩)
theorem check_ok {h0 : Hp} (ok : h0.t.Sized h0.n) {γ : Gra} (hγ : Good γ) {vx vy va : Value} (ga : GraphAt h0 vx vy va γ) : Pure Tryz.abEnv 94 [rawV γ vx vy va] h0 .nilIface := by
  have S := St.init (M := NoM) ok
  refine enter_ret (n := 6) (rs := [.cell 2 87]) rfl Tryz.e94 rfl rfl rfl (Nat.le_of_ble_eq_true rfl) ?_
  simp only [BS, Nat.reduceLT, rawV]
  refine step_newS (box_new (by intro x e; cases e)) S ?_; clear S; intro h b S n_b; simp only [vcells] at S
  simp only [BS, Tryz.FFt694]
  refine step_newS allocR_new S ?_; clear S; intro h b2 S n_b2
  simp only [BS, Nat.reduceLT, Nat.reduceEqDiff, if_true, if_false, List.map_cons, List.map_nil, List.append_nil, List.nil_append, List.map_toArray, true_and, eq_self, Tryz.FFt694, S.lds (b := b) (o := 0) (n := 4) (by first | exact m0 | exact m1 | exact m2 | exact m3 | exact m4 | exact m5 | exact m6 | exact m7) (Nat.le_of_ble_eq_true rfl)]
  refine step_ret (look_ok S.ok hγ (ga.gr S.gr)) ?_; intro v h g; replace S := S.call g; clear g
  simp only [BS, Nat.reduceLT, Nat.reduceEqDiff, if_true, if_false, eq_self]
  first | refine step_u (store_fl S (i := 0) rfl (by simp only [Tryz.FFt694]) (by first | exact fl_int | exact fl_slice | exact fl_ptr | exact fl_bool | exact fl_map | exact fl_func | exact fl_nili | exact fl_iface | exact fl_nilf | exact fl_str | assumption) (Nat.lt_of_succ_le (Nat.le_of_ble_eq_true rfl)) Nat.one_ne_zero) ?_ | refine step_u (store_fl S (i := 1) rfl (by simp only [Tryz.FFt694]) (by first | exact fl_int | exact fl_slice | exact fl_ptr | exact fl_bool | exact fl_map | exact fl_func | exact fl_nili | exact fl_iface | exact fl_nilf | exact fl_str | assumption) (Nat.lt_of_succ_le (Nat.le_of_ble_eq_true rfl)) Nat.one_ne_zero) ?_ | refine step_u (store_fl S (i := 2) rfl (by simp only [Tryz.FFt694]) (by first | exact fl_int | exact fl_slice | exact fl_ptr | exact fl_bool | exact fl_map | exact fl_func | exact fl_nili | exact fl_iface | exact fl_nilf | exact fl_str | assumption) (Nat.lt_of_succ_le (Nat.le_of_ble_eq_true rfl)) Nat.one_ne_zero) ?_ | refine step_u (store_fl S (i := 3) rfl (by simp only [Tryz.FFt694]) (by first | exact fl_int | exact fl_slice | exact fl_ptr | exact fl_bool | exact fl_map | exact fl_func | exact fl_nili | exact fl_iface | exact fl_nilf | exact fl_str | assumption) (Nat.lt_of_succ_le (Nat.le_of_ble_eq_true rfl)) Nat.one_ne_zero) ?_ | refine step_u (store_fl S (i := 4) rfl (by simp only [Tryz.FFt694]) (by first | exact fl_int | exact fl_slice | exact fl_ptr | exact fl_bool | exact fl_map | exact fl_func | exact fl_nili | exact fl_iface | exact fl_nilf | exact fl_str | assumption) (Nat.lt_of_succ_le (Nat.le_of_ble_eq_true rfl)) Nat.one_ne_zero) ?_ | refine step_u (store_fl S (i := 5) rfl (by simp only [Tryz.FFt694]) (by first | exact fl_int | exact fl_slice | exact fl_ptr | exact fl_bool | exact fl_map | exact fl_func | exact fl_nili | exact fl_iface | exact fl_nilf | exact fl_str | assumption) (Nat.lt_of_succ_le (Nat.le_of_ble_eq_true rfl)) Nat.one_ne_zero) ?_ | refine step_u (store_fl S (i := 6) rfl (by simp only [Tryz.FFt694]) (by first | exact fl_int | exact fl_slice | exact fl_ptr | exact fl_bool | exact fl_map | exact fl_func | exact fl_nili | exact fl_iface | exact fl_nilf | exact fl_str | assumption) (Nat.lt_of_succ_le (Nat.le_of_ble_eq_true rfl)) Nat.one_ne_zero) ?_ | refine step_u (store_fl S (i := 7) rfl (by simp only [Tryz.FFt694]) (by first | exact fl_int | exact fl_slice | exact fl_ptr | exact fl_bool | exact fl_map | exact fl_func | exact fl_nili | exact fl_iface | exact fl_nilf | exact fl_str | assumption) (Nat.lt_of_succ_le (Nat.le_of_ble_eq_true rfl)) Nat.one_ne_zero) ?_
  clear S; rintro h ⟨S, mo⟩; clear mo; simp only [List.set_cons_zero, List.set_cons_succ, vcells, lay, List.take, List.drop, List.nil_append, List.cons_append, List.append_nil, List.length_cons, List.length_nil, Nat.reduceAdd, Nat.add_zero] at S
  simp only [BS]
  refine leave_gen (un_fn (callq_mono (check1_ok S.ok) fun o rc h' ⟨a, b, g⟩ => ⟨a, b, un_nil ⟨rfl, ?_⟩⟩))
  replace S := S.call g
  have l := S.ld (b := b2) (o := 0) m0 rfl
  exact ⟨_, rr_cell (by decide) (by simp only [setR_at, ptr_eq, Nat.reduceEqDiff, reduceIte]; exact loadV_cell Tryz.a87 l), rfl, S.gr⟩
theorem clone64_ok {h0 : Hp} (ok : h0.t.Sized h0.n) {v : Value} {xs : List Int} (hs : SlAt h0 1 (encI .i64) v xs) (hl : xs.length < 1000000) : Ret Tryz.abEnv 114 [v] h0 fun r h' => Gr h0 h' ∧ SlAt h' 1 (encI .i64) r xs ∧ ∀ c, blkOf r c → h0.n ≤ c := by
  have S := St.init (M := NoM) ok
  rcases hs with ⟨rfl, rfl⟩ | ⟨b, o, s, c, rfl, h2, h3⟩
  · refine enter_ret (n := 8) (rs := [.tmp 2]) rfl Tryz.e114 rfl rfl rfl (Nat.le_of_ble_eq_true rfl) ?_
    simp only [BS, tupleOf, Nat.reduceLT, Nat.reduceEqDiff, if_true, if_false, eq_self, Tryz.FFt6114]
    exact ⟨S.gr, .inl ⟨rfl, rfl⟩, fun c hc => hc.elim⟩
  · refine enter_ret (n := 8) (rs := [.tmp 2]) rfl Tryz.e114 rfl rfl rfl (Nat.le_of_ble_eq_true rfl) ?_
    simp only [BS, Nat.reduceLT, Nat.reduceEqDiff, if_true, if_false, List.map_nil, eq_self, Tryz.FFt6114]
    refine step_newS (bs_new (by first | exact Tryz.u25) (by first | exact Tryz.e2E) (by decide) (by first | rfl | exact fillE )) S ?_; clear S; intro h bb S n_bb; simp only [repL, setL, vcells, List.cons_append, List.nil_append, List.append_nil, List.set_cons_zero, List.set_cons_succ, Nat.reduceMul, Nat.reduceAdd, Nat.zero_mul, Nat.zero_add, Nat.mul_one, Nat.one_mul] at S
    simp only [BS, Nat.reduceLT, Nat.reduceEqDiff, if_true, if_false, eq_self]
    refine step_v (S.cloneSl (enc := encI .i64) (xs := []) Tryz.u25 Tryz.e2E (by decide) Tryz.n25 (.inr ⟨b, o, s, c, rfl, h2, S.old h3 (fun h => h)⟩) (fun x => rfl) (by decide) (by simp only [List.length_nil, Nat.zero_add]; omega) (S.row m0)) ?_
    rintro h' v ⟨S', g, sl, hc⟩
    simp only [BS, tupleOf, Nat.reduceLT, Nat.reduceEqDiff, if_true, if_false, eq_self]
    refine ⟨S'.gr, by simpa using sl, fun c h => (hc c h).elim (fun e => by omega) (fun e => Nat.le_trans S.fr.n e)⟩
theorem cloneArc_ok {h0 : Hp} (ok : h0.t.Sized h0.n) {v : Value} {xs : List Arc} (hs : SlAt h0 3 (encA) v xs) (hl : xs.length < 1000000) : Ret Tryz.abEnv 138 [v] h0 fun r h' => Gr h0 h' ∧ SlAt h' 3 (encA) r xs ∧ ∀ c, blkOf r c → h0.n ≤ c := by
  have S := St.init (M := NoM) ok
  rcases hs with ⟨rfl, rfl⟩ | ⟨b, o, s, c, rfl, h2, h3⟩
  · refine enter_ret (n := 8) (rs := [.tmp 2]) rfl Tryz.e138 rfl rfl rfl (Nat.le_of_ble_eq_true rfl) ?_
    simp only [BS, tupleOf, Nat.reduceLT, Nat.reduceEqDiff, if_true, if_false, eq_self, Tryz.FFt6138]
    exact ⟨S.gr, .inl ⟨rfl, rfl⟩, fun c hc => hc.elim⟩
  · refine enter_ret (n := 8) (rs := [.tmp 2]) rfl Tryz.e138 rfl rfl rfl (Nat.le_of_ble_eq_true rfl) ?_
    simp only [BS, Nat.reduceLT, Nat.reduceEqDiff, if_true, if_false, List.map_nil, eq_self, Tryz.FFt6138]
    refine step_newS (bs_new (by first | exact Tryz.u26) (by first | exact Tryz.e60E) (by decide) (by first | rfl | exact fillE )) S ?_; clear S; intro h bb S n_bb; simp only [repL, setL, vcells, List.cons_append, List.nil_append, List.append_nil, List.set_cons_zero, List.set_cons_succ, Nat.reduceMul, Nat.reduceAdd, Nat.zero_mul, Nat.zero_add, Nat.mul_one, Nat.one_mul] at S
    simp only [BS, Nat.reduceLT, Nat.reduceEqDiff, if_true, if_false, eq_self]
    refine step_v (S.cloneSl (enc := encA) (xs := []) Tryz.u26 Tryz.e60E (by decide) Tryz.n26 (.inr ⟨b, o, s, c, rfl, h2, S.old h3 (fun h => h)⟩) (fun x => rfl) (by decide) (by simp only [List.length_nil, Nat.zero_add]; omega) (S.row m0)) ?_
    rintro h' v ⟨S', g, sl, hc⟩
    simp only [BS, tupleOf, Nat.reduceLT, Nat.reduceEqDiff, if_true, if_false, eq_self]
    refine ⟨S'.gr, by simpa using sl, fun c h => (hc c h).elim (fun e => by omega) (fun e => Nat.le_trans S.fr.n e)⟩
end Go.Ab

end
section
/- Drafts: numbers, weights. -/
set_option maxHeartbeats 4000000

set_option linter.unusedVariables false
namespace Go.Ab
open Go.Proofs
set_option maxRecDepth 10000
set_option linter.defProp false
def Tryz.FFt792 := And.intro Tryz.a1 <| And.intro Tryz.s1 <| And.intro Tryz.z1 <| And.intro Tryz.n1 <| And.intro Tryz.u2 <| And.intro Tryz.a2 <| And.intro Tryz.s2 <| And.intro Tryz.z2 <| And.intro Tryz.i2 <| And.intro Tryz.u3 <| And.intro Tryz.a3 <| And.intro Tryz.s3 <| And.intro Tryz.z3 <| And.intro Tryz.i3 <| And.intro Tryz.u4 <| And.intro Tryz.a4 <| And.intro Tryz.s4 <| And.intro Tryz.z4 <| And.intro Tryz.n4 <| And.intro Tryz.u5 <| And.intro Tryz.a5 <| And.intro Tryz.s5 <| And.intro Tryz.z5 <| And.intro Tryz.i5 <| And.intro Tryz.u22 <| And.intro Tryz.a22 <| And.intro Tryz.s22 <| And.intro Tryz.z22 <| And.intro Tryz.q22 <| And.intro Tryz.n22 <| And.intro Tryz.u82 <| And.intro Tryz.a82 <| And.intro Tryz.s82 <| And.intro Tryz.z82 <| And.intro Tryz.q82 <| And.intro Tryz.i82 <| And.intro Tryz.n82 <| And.intro Tryz.a84 <| And.intro Tryz.s84 <| And.intro Tryz.z84 <| And.intro Tryz.i84 <| And.intro Tryz.n84 <| And.intro Tryz.p84 <| And.intro Tryz.ff84 <| Tryz.d84
def Tryz.FFt793 := And.intro Tryz.a1 <| And.intro Tryz.s1 <| And.intro Tryz.z1 <| And.intro Tryz.n1 <| And.intro Tryz.u2 <| And.intro Tryz.a2 <| And.intro Tryz.s2 <| And.intro Tryz.z2 <| And.intro Tryz.i2 <| And.intro Tryz.u3 <| And.intro Tryz.a3 <| And.intro Tryz.s3 <| And.intro Tryz.z3 <| And.intro Tryz.i3 <| And.intro Tryz.u4 <| And.intro Tryz.a4 <| And.intro Tryz.s4 <| And.intro Tryz.z4 <| And.intro Tryz.n4 <| And.intro Tryz.u5 <| And.intro Tryz.a5 <| And.intro Tryz.s5 <| And.intro Tryz.z5 <| And.intro Tryz.i5 <| And.intro Tryz.u6 <| And.intro Tryz.a6 <| And.intro Tryz.s6 <| And.intro Tryz.z6 <| And.intro Tryz.i6 <| And.intro Tryz.a7 <| And.intro Tryz.s7 <| And.intro Tryz.z7 <| And.intro Tryz.i7 <| And.intro Tryz.n7 <| And.intro Tryz.p7 <| And.intro Tryz.ff7 <| And.intro Tryz.d7 <| And.intro Tryz.a8 <| And.intro Tryz.s8 <| And.intro Tryz.z8 <| And.intro Tryz.i8 <| And.intro Tryz.n8 <| And.intro Tryz.p8 <| And.intro Tryz.ff8 <| And.intro Tryz.d8 <| And.intro Tryz.u22 <| And.intro Tryz.a22 <| And.intro Tryz.s22 <| And.intro Tryz.z22 <| And.intro Tryz.q22 <| And.intro Tryz.n22 <| And.intro Tryz.u82 <| And.intro Tryz.a82 <| And.intro Tryz.s82 <| And.intro Tryz.z82 <| And.intro Tryz.q82 <| And.intro Tryz.i82 <| And.intro Tryz.n82 <| And.intro Tryz.a84 <| And.intro Tryz.s84 <| And.intro Tryz.z84 <| And.intro Tryz.i84 <| And.intro Tryz.n84 <| And.intro Tryz.p84 <| And.intro Tryz.ff84 <| Tryz.d84
/-- A draft lies there. -/
structure DrAt (h : Hp) (bd : Nat) (vB : Value) (xs : List Int) (a : Nat) : Prop where
  sl : SlAt h 1 (encI .u8) vB xs
  ne : ¬ blkOf vB bd
  few : xs.length < 1000000
  at_ : a < 100000
theorem next_ok {h0 : Hp} (ok : h0.t.Sized h0.n) {bd a n : Nat} {vB : Value} {xs : List Int} (hr : Row h0 bd [vB, .int .i64 a] 1) (hd : DrAt h0 bd vB xs a) (hn : 1 ≤ n) (hn2 : n < 1000) :
    Ret Tryz.abEnv 92 [ptrTo bd, .int .i64 n] h0 fun v h' => Mo (· = bd) h0 h' ∧ ∃ r a' : Nat, v = .int .i64 r ∧ r < n ∧ a' ≤ a + 1 ∧ Row h' bd [vB, .int .i64 a'] 1 := by
  have S := St.init1 ok (o := .row [vB, .int .i64 a] 1) hr
  obtain ⟨hs, hne, hx, ha⟩ := hd
  have fl := hs.fl
  have w1 : wrapI .i64 ((a : Int) + 1) = ((a + 1 : Nat) : Int) := by rw [wrap64] <;> omega
  have w2 : wrapI .i64 (((a + 1 : Nat) : Int) - 1) = (a : Int) := by rw [wrap64] <;> omega
  have c1 : ¬ (n : Int) < 1 := by omega
  by_cases h0' : xs.length = 0
  · have c0 : (xs.length : Int) = 0 := by omega
    refine enter_ret (n := 55) (rs := [.tmp 4]) rfl Tryz.e92 rfl rfl rfl (Nat.le_of_ble_eq_true rfl) ?_
    simp only [BS, tupleOf, Nat.add_zero, Nat.reduceLT, Nat.reduceEqDiff, if_true, if_false, List.getElem?_cons_zero, List.getElem?_cons_succ, Bool.not_true, decide_true, eq_self, Tryz.FFt792, hs.lenq, c0, S.ld (b := bd) (o := 0) (by first | exact m0 | exact m1 | exact m2 | exact m3 | exact m4 | exact m5 | exact m6 | exact m7) rfl]
    exact ⟨S.fr, 0, a, rfl, by omega, by omega, S.row m0⟩
  · have c0 : ¬ (xs.length : Int) = 0 := by omega
    have hmod : a % xs.length < xs.length := Nat.mod_lt _ (by omega)
    have tm : (a : Int).tmod (xs.length : Int) = ((a % xs.length : Nat) : Int) := by rw [Int.tmod_eq_emod_of_nonneg (by omega)]; exact (Int.natCast_emod _ _).symm
    refine enter_ret (n := 55) (rs := [.tmp 4]) rfl Tryz.e92 rfl rfl rfl (Nat.le_of_ble_eq_true rfl) ?_
    simp only [BS, Nat.add_zero, Nat.reduceLT, Nat.reduceEqDiff, if_true, if_false, List.getElem?_cons_zero, List.getElem?_cons_succ, Nat.zero_add, Bool.not_false, decide_false, eq_self, Tryz.FFt792, hs.lenq, c0, c1, w1, S.ld (b := bd) (o := 0) (by first | exact m0 | exact m1 | exact m2 | exact m3 | exact m4 | exact m5 | exact m6 | exact m7) rfl, S.ld (b := bd) (o := 1) (by first | exact m0 | exact m1 | exact m2 | exact m3 | exact m4 | exact m5 | exact m6 | exact m7) rfl]
    first | refine step_u (store_fl S (i := 0) rfl (by simp only [Tryz.FFt792]) (by first | exact fl_int | exact fl_slice | exact fl_ptr | exact fl_bool | exact fl_map | exact fl_func | exact fl_nili | exact fl_iface | exact fl_nilf | exact fl_str | assumption) (Nat.lt_of_succ_le (Nat.le_of_ble_eq_true rfl)) Nat.one_ne_zero) ?_ | refine step_u (store_fl S (i := 1) rfl (by simp only [Tryz.FFt792]) (by first | exact fl_int | exact fl_slice | exact fl_ptr | exact fl_bool | exact fl_map | exact fl_func | exact fl_nili | exact fl_iface | exact fl_nilf | exact fl_str | assumption) (Nat.lt_of_succ_le (Nat.le_of_ble_eq_true rfl)) Nat.one_ne_zero) ?_ | refine step_u (store_fl S (i := 2) rfl (by simp only [Tryz.FFt792]) (by first | exact fl_int | exact fl_slice | exact fl_ptr | exact fl_bool | exact fl_map | exact fl_func | exact fl_nili | exact fl_iface | exact fl_nilf | exact fl_str | assumption) (Nat.lt_of_succ_le (Nat.le_of_ble_eq_true rfl)) Nat.one_ne_zero) ?_ | refine step_u (store_fl S (i := 3) rfl (by simp only [Tryz.FFt792]) (by first | exact fl_int | exact fl_slice | exact fl_ptr | exact fl_bool | exact fl_map | exact fl_func | exact fl_nili | exact fl_iface | exact fl_nilf | exact fl_str | assumption) (Nat.lt_of_succ_le (Nat.le_of_ble_eq_true rfl)) Nat.one_ne_zero) ?_ | refine step_u (store_fl S (i := 4) rfl (by simp only [Tryz.FFt792]) (by first | exact fl_int | exact fl_slice | exact fl_ptr | exact fl_bool | exact fl_map | exact fl_func | exact fl_nili | exact fl_iface | exact fl_nilf | exact fl_str | assumption) (Nat.lt_of_succ_le (Nat.le_of_ble_eq_true rfl)) Nat.one_ne_zero) ?_ | refine step_u (store_fl S (i := 5) rfl (by simp only [Tryz.FFt792]) (by first | exact fl_int | exact fl_slice | exact fl_ptr | exact fl_bool | exact fl_map | exact fl_func | exact fl_nili | exact fl_iface | exact fl_nilf | exact fl_str | assumption) (Nat.lt_of_succ_le (Nat.le_of_ble_eq_true rfl)) Nat.one_ne_zero) ?_ | refine step_u (store_fl S (i := 6) rfl (by simp only [Tryz.FFt792]) (by first | exact fl_int | exact fl_slice | exact fl_ptr | exact fl_bool | exact fl_map | exact fl_func | exact fl_nili | exact fl_iface | exact fl_nilf | exact fl_str | assumption) (Nat.lt_of_succ_le (Nat.le_of_ble_eq_true rfl)) Nat.one_ne_zero) ?_ | refine step_u (store_fl S (i := 7) rfl (by simp only [Tryz.FFt792]) (by first | exact fl_int | exact fl_slice | exact fl_ptr | exact fl_bool | exact fl_map | exact fl_func | exact fl_nili | exact fl_iface | exact fl_nilf | exact fl_str | assumption) (Nat.lt_of_succ_le (Nat.le_of_ble_eq_true rfl)) Nat.one_ne_zero) ?_
    clear S; rintro h ⟨S, mo⟩; clear mo; simp only [List.set_cons_zero, List.set_cons_succ, vcells, lay, List.take, List.drop, List.nil_append, List.cons_append, List.append_nil, List.length_cons, List.length_nil, Nat.reduceAdd, Nat.add_zero] at S
    have hs' : SlAt h 1 (encI .u8) vB xs := hs.mo S.fr (fun b hb e => hne (e ▸ hb))
    obtain ⟨c, o, hidx, hld⟩ := hs'.ix (kd := .i64) (encI_len _) hmod
    have cz : (xs.length : Int) ≠ 0 := c0
    have cn : (n : Int) ≠ 0 := by omega
    simp only [BS]
    refine draw_step (hoist_no rfl) (q := 0) (ps := []) (by kernel_rfl) ?_
    simp only [BS, convV, convKind, convP, cls, tupleOf, Nat.add_zero, Nat.reduceLT, Nat.reduceEqDiff, Nat.reduceAdd, if_true, if_false, Nat.reducePow, Nat.reduceDiv, Nat.reduceMod, Nat.reduceLeDiff, Bool.and_false, Nat.zero_add, true_and, decide_false, eq_self, Tryz.FFt792, hs'.lenq, w2, b_rem cz, b_quo cz, b_rem cn, tm, hidx, hld, encI, S.ld (b := bd) (o := 0) (by first | exact m0 | exact m1 | exact m2 | exact m3 | exact m4 | exact m5 | exact m6 | exact m7) rfl, S.ld (b := bd) (o := 1) (by first | exact m0 | exact m1 | exact m2 | exact m3 | exact m4 | exact m5 | exact m6 | exact m7) rfl]
    have key : ∀ z : Int, ∃ r : Nat, (wrapI .i64 (wrapI .u8 z)).tmod (n : Int) = (r : Int) ∧ r < n := by
      intro z
      have h8 := wrap8 z
      rw [wrap64 (by omega) (by omega), Int.tmod_eq_emod_of_nonneg (by omega)]
      have h1 := Int.emod_nonneg (wrapI .u8 z) cn
      have h2 := Int.emod_lt_of_pos (wrapI .u8 z) (show (0 : Int) < n by omega)
      exact ⟨(wrapI .u8 z % n).toNat, by omega, by omega⟩
    obtain ⟨r, e, hr⟩ := key _
    rw [e]
    exact ⟨S.fr, r, a + 1, rfl, hr, Nat.le_refl _, S.row m0⟩
theorem DrAt.mo {h h' : Hp} {bd : Nat} {vB : Value} {xs : List Int} {a a' : Nat} (d : DrAt h bd vB xs a) (f : Mo (· = bd) h h') (ha : a' < 100000) : DrAt h' bd vB xs a' :=
  ⟨d.sl.mo f (fun b hb e => d.ne (e ▸ hb)), d.ne, d.few, ha⟩
theorem DrAt.gr {h h' : Hp} {bd : Nat} {vB : Value} {xs : List Int} {a : Nat} (d : DrAt h bd vB xs a) (g : Gr h h') : DrAt h' bd vB xs a := ⟨d.sl.gr g, d.ne, d.few, d.at_⟩
theorem weight_ok {h0 : Hp} (ok : h0.t.Sized h0.n) {bd a : Nat} {vB : Value} {xs : List Int} (hr : Row h0 bd [vB, .int .i64 a] 1) (hd : DrAt h0 bd vB xs a) (ha : a + 2 < 100000) :
    Ret Tryz.abEnv 93 [ptrTo bd] h0 fun v h' => Mo (· = bd) h0 h' ∧ ∃ r a' : Nat, v = .int .i64 r ∧ r ≤ 2147483647 ∧ a' ≤ a + 2 ∧ Row h' bd [vB, .int .i64 a'] 1 := by
  have S := St.init1 ok (o := .row [vB, .int .i64 a] 1) hr
  refine enter_ret (n := 24) (rs := [.tmp 2]) rfl Tryz.e93 rfl rfl rfl (Nat.le_of_ble_eq_true rfl) ?_
  simp only [BS, Nat.reduceLT, Nat.reduceEqDiff, if_true, if_false, List.map_cons, List.map_nil, List.append_nil, List.nil_append, eq_self]
  refine step_ret (next_ok (n := 12) S.ok (S.row m0) hd (by omega) (by omega)) ?_
  rintro v h ⟨f, r, a1, rfl, hr1, ha1, R1⟩
  replace S := S.call1 (i := 0) rfl f (o' := .row _ _) R1
  have hd1 : DrAt h bd vB xs a1 := hd.mo f (by omega)
  simp only [List.set_cons_zero] at S
  by_cases c1 : (r : Int) < 3
  · simp only [BS, tupleOf, Nat.reduceLT, Nat.reduceEqDiff, if_true, if_false, decide_true, eq_self, c1]
    exact ⟨S.fr, 0, a1, rfl, by omega, by omega, S.row m0⟩
  · by_cases c2 : (r : Int) < 10
    · simp only [BS, Nat.reduceLT, Nat.reduceEqDiff, if_true, if_false, List.map_cons, List.map_nil, List.append_nil, List.nil_append, decide_true, decide_false, eq_self, c1, c2]
      refine step_ret (next_ok (n := 9) S.ok (S.row m0) hd1 (by omega) (by omega)) ?_
      rintro v h ⟨f, r2, a2, rfl, hr2, ha2, R2⟩
      replace S := S.call1 (i := 0) rfl f (o' := .row _ _) R2
      simp only [List.set_cons_zero] at S
      have w1 : wrapI .i64 (1 + (r2 : Int)) = ((1 + r2 : Nat) : Int) := by rw [wrap64] <;> omega
      simp only [BS, tupleOf, Nat.reduceLT, Nat.reduceEqDiff, if_true, if_false, eq_self, w1]
      exact ⟨S.fr, 1 + r2, a2, rfl, by omega, by omega, S.row m0⟩
    · by_cases c3 : (r : Int) < 11
      · simp only [BS, Nat.reduceLT, Nat.reduceEqDiff, if_true, if_false, List.map_cons, List.map_nil, List.append_nil, List.nil_append, decide_true, decide_false, eq_self, c1, c2, c3]
        refine step_ret (next_ok (n := 20) S.ok (S.row m0) hd1 (by omega) (by omega)) ?_
        rintro v h ⟨f, r2, a2, rfl, hr2, ha2, R2⟩
        replace S := S.call1 (i := 0) rfl f (o' := .row _ _) R2
        simp only [List.set_cons_zero] at S
        have w1 : wrapI .i64 (100 * (r2 : Int)) = ((100 * r2 : Nat) : Int) := by rw [wrap64] <;> omega
        simp only [BS, tupleOf, Nat.reduceLT, Nat.reduceEqDiff, if_true, if_false, eq_self, w1]
        exact ⟨S.fr, 100 * r2, a2, rfl, by omega, by omega, S.row m0⟩
      · simp only [BS, Nat.reduceLT, Nat.reduceEqDiff, if_true, if_false, List.map_cons, List.map_nil, List.append_nil, List.nil_append, decide_false, eq_self, c1, c2, c3]
        refine step_ret (next_ok (n := 2) S.ok (S.row m0) hd1 (by omega) (by omega)) ?_
        rintro v h ⟨f, r2, a2, rfl, hr2, ha2, R2⟩
        replace S := S.call1 (i := 0) rfl f (o' := .row _ _) R2
        simp only [List.set_cons_zero] at S
        have w1 : wrapI .i64 (2147483647 - (r2 : Int)) = ((2147483647 - r2 : Nat) : Int) := by rw [wrap64] <;> omega
        simp only [BS, tupleOf, Nat.reduceLT, Nat.reduceEqDiff, if_true, if_false, eq_self, w1]
        exact ⟨S.fr, 2147483647 - r2, a2, rfl, by omega, by omega, S.row m0⟩
end Go.Ab

end

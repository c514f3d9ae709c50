/- What sums are, of the texts that this law meets. -/
import Derived.Test.YtagigldgfaagfaaGreatDoorEnv
import Derived.KernelRfl
set_option maxHeartbeats 4000000
namespace Go.Proofs.YtagigldgfaagfaaGreatDoor.imageKnown
open Go.Ab
set_option maxRecDepth 100000
def sum0 : Nat × List Value × Value := (57, [.string (byteStr [])], .int .u32 0)
theorem sum0_known : Known Tryz.abEnv Tryz.prog sum0 := known_of (n := 5000) Tryz.abOk (by kernel_rfl) (by kernel_rfl)
def sum1 : Nat × List Value × Value := (57, [.string (byteStr [0])], .int .u32 3523407757)
theorem sum1_known : Known Tryz.abEnv Tryz.prog sum1 := known_of (n := 5000) Tryz.abOk (by kernel_rfl) (by kernel_rfl)
def sum2 : Nat × List Value × Value := (57, [.string (byteStr [0, 1])], .int .u32 920527465)
theorem sum2_known : Known Tryz.abEnv Tryz.prog sum2 := known_of (n := 5000) Tryz.abOk (by kernel_rfl) (by kernel_rfl)
def sum3 : Nat × List Value × Value := (57, [.string (byteStr [1, 0, 0, 0, 0, 0, 0, 0, 1, 0, 0, 0, 0, 0, 0, 0, 255, 255, 255, 255, 255, 255, 255, 255])], .int .u32 3370794723)
theorem sum3_known : Known Tryz.abEnv Tryz.prog sum3 := known_of (n := 5000) Tryz.abOk (by kernel_rfl) (by kernel_rfl)
def sum4 : Nat × List Value × Value := (57, [.string (byteStr [2, 0, 0, 0, 1, 0, 0, 0, 0, 0, 0, 0, 0, 0, 0, 0, 0, 0, 0, 0, 0, 0, 0, 0, 0, 0, 0, 0, 0, 0, 0, 0, 0, 0, 0, 0, 0, 0, 0, 0, 0, 0, 0, 0, 1, 0, 0, 0, 255, 255, 255, 127])], .int .u32 3718953003)
theorem sum4_known : Known Tryz.abEnv Tryz.prog sum4 := known_of (n := 5000) Tryz.abOk (by kernel_rfl) (by kernel_rfl)
def sum5 : Nat × List Value × Value := (57, [.string (byteStr [2, 1, 0, 0, 0, 0, 0, 0, 0, 255, 255, 255, 127, 0, 0, 0, 0, 0, 0, 0, 0, 0, 0, 0, 0, 0, 0, 0, 0, 0, 0, 0, 1, 0, 0, 0, 0, 0, 0, 0, 0, 0, 0, 0, 0, 0, 0, 0, 0, 0, 0, 0, 0, 0, 0, 0, 1, 0, 0, 0, 0, 0, 0, 0, 0, 255, 255, 255, 127, 0, 0, 0, 0])], .int .u32 2342773615)
theorem sum5_known : Known Tryz.abEnv Tryz.prog sum5 := known_of (n := 5000) Tryz.abOk (by kernel_rfl) (by kernel_rfl)
def sum6 : Nat × List Value × Value := (57, [.string (byteStr [77, 73, 76, 69, 49, 1, 0])], .int .u32 2644259778)
theorem sum6_known : Known Tryz.abEnv Tryz.prog sum6 := known_of (n := 5000) Tryz.abOk (by kernel_rfl) (by kernel_rfl)
def sum7 : Nat × List Value × Value := (57, [.string (byteStr [77, 73, 76, 69, 49, 1, 1, 1, 24, 0, 0, 0, 0, 0, 0, 0, 227, 62, 234, 200])], .int .u32 1740379922)
theorem sum7_known : Known Tryz.abEnv Tryz.prog sum7 := known_of (n := 5000) Tryz.abOk (by kernel_rfl) (by kernel_rfl)
def sum8 : Nat × List Value × Value := (57, [.string (byteStr [77, 73, 76, 69, 49, 1, 3, 1, 24, 0, 0, 0, 0, 0, 0, 0, 227, 62, 234, 200, 3, 1, 0, 0, 0, 0, 0, 0, 0, 141, 239, 2, 210, 4, 0, 0, 0, 0, 0, 0, 0, 0, 0, 0, 0, 0])], .int .u32 1011033462)
theorem sum8_known : Known Tryz.abEnv Tryz.prog sum8 := known_of (n := 5000) Tryz.abOk (by kernel_rfl) (by kernel_rfl)
def sum9 : Nat × List Value × Value := (57, [.string (byteStr [77, 73, 76, 69, 49, 1, 4, 1, 52, 0, 0, 0, 0, 0, 0, 0, 43, 184, 170, 221, 2, 73, 0, 0, 0, 0, 0, 0, 0, 111, 227, 163, 139, 3, 2, 0, 0, 0, 0, 0, 0, 0, 105, 34, 222, 54, 4, 2, 0, 0, 0, 0, 0, 0, 0, 105, 34, 222, 54])], .int .u32 3362696610)
theorem sum9_known : Known Tryz.abEnv Tryz.prog sum9 := known_of (n := 5000) Tryz.abOk (by kernel_rfl) (by kernel_rfl)
def sums : List (Nat × List Value × Value) := [sum0, sum1, sum2, sum3, sum4, sum5, sum6, sum7, sum8, sum9]
theorem sums_known : ∀ e ∈ sums, Known Tryz.abEnv Tryz.prog e := by
  intro e he
  simp only [sums, List.mem_cons, List.not_mem_nil, or_false] at he
  rcases he with rfl | rfl | rfl | rfl | rfl | rfl | rfl | rfl | rfl | rfl
  · exact sum0_known
  · exact sum1_known
  · exact sum2_known
  · exact sum3_known
  · exact sum4_known
  · exact sum5_known
  · exact sum6_known
  · exact sum7_known
  · exact sum8_known
  · exact sum9_known
noncomputable def env1 : Env := withOrc Tryz.abEnv (orcOf sums)
theorem ok1 : EOk env1 Tryz.prog := eok_table Tryz.abOk sums_known
end Go.Proofs.YtagigldgfaagfaaGreatDoor.imageKnown

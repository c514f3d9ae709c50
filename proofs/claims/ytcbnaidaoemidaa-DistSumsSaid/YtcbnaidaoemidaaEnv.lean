/- The program as the evaluator takes it. -/
import Derived.Test.YtcbnaidaoemidaaAbE
import Derived.Test.YtcbnaidaoemidaaChecked
import Derived.Test.YtcbnaidaoemidaaRows
set_option maxHeartbeats 4000000
namespace Go.Ab
open Go.Proofs
noncomputable def Try.abFns : Tr Func := (.node Try.f0 (.node Try.f1 (.node Try.f3 (.node Try.f7 (.node Try.f15 (.node Try.f31 .nil .nil) .nil) (.node Try.f23 (.node Try.f39 .nil .nil) .nil)) (.node Try.f11 (.node Try.f19 (.node Try.f35 .nil .nil) .nil) (.node Try.f27 .nil .nil))) (.node Try.f5 (.node Try.f9 (.node Try.f17 (.node Try.f33 .nil .nil) .nil) (.node Try.f25 (.node Try.f41 .nil .nil) .nil)) (.node Try.f13 (.node Try.f21 (.node Try.f37 .nil .nil) .nil) (.node Try.f29 .nil .nil)))) (.node Try.f2 (.node Try.f4 (.node Try.f8 (.node Try.f16 (.node Try.f32 .nil .nil) .nil) (.node Try.f24 (.node Try.f40 .nil .nil) .nil)) (.node Try.f12 (.node Try.f20 (.node Try.f36 .nil .nil) .nil) (.node Try.f28 .nil .nil))) (.node Try.f6 (.node Try.f10 (.node Try.f18 (.node Try.f34 .nil .nil) .nil) (.node Try.f26 .nil .nil)) (.node Try.f14 (.node Try.f22 (.node Try.f38 .nil .nil) .nil) (.node Try.f30 .nil .nil)))))
noncomputable def Try.abTys : Tr TypeInfo := (.node Try.t0 (.node Try.t1 (.node Try.t3 (.node Try.t7 (.node Try.t15 (.node Try.t31 .nil .nil) (.node Try.t47 .nil .nil)) (.node Try.t23 (.node Try.t39 .nil .nil) (.node Try.t55 .nil .nil))) (.node Try.t11 (.node Try.t19 (.node Try.t35 .nil .nil) (.node Try.t51 .nil .nil)) (.node Try.t27 (.node Try.t43 .nil .nil) .nil))) (.node Try.t5 (.node Try.t9 (.node Try.t17 (.node Try.t33 .nil .nil) (.node Try.t49 .nil .nil)) (.node Try.t25 (.node Try.t41 .nil .nil) .nil)) (.node Try.t13 (.node Try.t21 (.node Try.t37 .nil .nil) (.node Try.t53 .nil .nil)) (.node Try.t29 (.node Try.t45 .nil .nil) .nil)))) (.node Try.t2 (.node Try.t4 (.node Try.t8 (.node Try.t16 (.node Try.t32 .nil .nil) (.node Try.t48 .nil .nil)) (.node Try.t24 (.node Try.t40 .nil .nil) (.node Try.t56 .nil .nil))) (.node Try.t12 (.node Try.t20 (.node Try.t36 .nil .nil) (.node Try.t52 .nil .nil)) (.node Try.t28 (.node Try.t44 .nil .nil) .nil))) (.node Try.t6 (.node Try.t10 (.node Try.t18 (.node Try.t34 .nil .nil) (.node Try.t50 .nil .nil)) (.node Try.t26 (.node Try.t42 .nil .nil) .nil)) (.node Try.t14 (.node Try.t22 (.node Try.t38 .nil .nil) (.node Try.t54 .nil .nil)) (.node Try.t30 (.node Try.t46 .nil .nil) .nil)))))
def Try.abEqs : List Nat := []
noncomputable def Try.abEnv : Env := envK Try.abFns Try.abTys Try.abEqs
set_option maxRecDepth 100000
theorem Try.abOk : EOk Try.abEnv Try.prog := by unfold Try.abEnv; rw [envK_eq]; exact eok_of (by kernel_rfl) (by kernel_rfl) (by kernel_rfl) (by kernel_rfl) (by kernel_rfl)
end Go.Ab

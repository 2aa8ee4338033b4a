/- The law at some of its pairs of numbers, run by the kernel. Conditions: none. -/
import Derived.Test.YtoehnfohceihbaaGreatDoorRt
import Derived.KernelRfl

set_option maxRecDepth 100000
set_option linter.unusedVariables false
namespace Go.Proofs.YtoehnfohceihbaaGreatDoor
open Go.Vx
theorem caseR_0_0 : caseR 0 0 = true := by kernel_rfl
theorem caseR_0_1 : caseR 0 1 = true := by kernel_rfl
theorem caseR_0_2 : caseR 0 2 = true := by kernel_rfl
theorem caseR_0_3 : caseR 0 3 = true := by kernel_rfl
theorem caseR_1_0 : caseR 1 0 = true := by kernel_rfl
theorem caseR_1_1 : caseR 1 1 = true := by kernel_rfl
theorem caseR_1_2 : caseR 1 2 = true := by kernel_rfl
theorem caseR_1_3 : caseR 1 3 = true := by kernel_rfl
theorem caseR_2_0 : caseR 2 0 = true := by kernel_rfl
theorem caseR_2_1 : caseR 2 1 = true := by kernel_rfl
theorem caseR_2_2 : caseR 2 2 = true := by kernel_rfl
theorem caseR_2_3 : caseR 2 3 = true := by kernel_rfl
theorem caseR_3_0 : caseR 3 0 = true := by kernel_rfl
theorem caseR_3_1 : caseR 3 1 = true := by kernel_rfl
theorem caseR_3_2 : caseR 3 2 = true := by kernel_rfl
theorem caseR_3_3 : caseR 3 3 = true := by kernel_rfl
theorem caseR_4_0 : caseR 4 0 = true := by kernel_rfl
theorem caseR_4_1 : caseR 4 1 = true := by kernel_rfl
theorem caseR_4_2 : caseR 4 2 = true := by kernel_rfl
theorem caseR_4_3 : caseR 4 3 = true := by kernel_rfl
end Go.Proofs.YtoehnfohceihbaaGreatDoor

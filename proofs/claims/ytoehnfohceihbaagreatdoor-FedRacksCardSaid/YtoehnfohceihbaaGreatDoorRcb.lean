/- The law at some of its pairs of numbers, run by the kernel. Conditions: none. -/
import Derived.Test.YtoehnfohceihbaaGreatDoorRt
import Derived.KernelRfl

set_option maxRecDepth 100000
set_option linter.unusedVariables false
namespace Go.Proofs.YtoehnfohceihbaaGreatDoor
open Go.Vx
theorem caseR_5_0 : caseR 5 0 = true := by kernel_rfl
theorem caseR_5_1 : caseR 5 1 = true := by kernel_rfl
theorem caseR_5_2 : caseR 5 2 = true := by kernel_rfl
theorem caseR_5_3 : caseR 5 3 = true := by kernel_rfl
theorem caseR_6_0 : caseR 6 0 = true := by kernel_rfl
theorem caseR_6_1 : caseR 6 1 = true := by kernel_rfl
theorem caseR_6_2 : caseR 6 2 = true := by kernel_rfl
theorem caseR_6_3 : caseR 6 3 = true := by kernel_rfl
theorem caseR_7_0 : caseR 7 0 = true := by kernel_rfl
theorem caseR_7_1 : caseR 7 1 = true := by kernel_rfl
theorem caseR_7_2 : caseR 7 2 = true := by kernel_rfl
theorem caseR_7_3 : caseR 7 3 = true := by kernel_rfl
theorem caseR_8_0 : caseR 8 0 = true := by kernel_rfl
theorem caseR_8_1 : caseR 8 1 = true := by kernel_rfl
theorem caseR_8_2 : caseR 8 2 = true := by kernel_rfl
theorem caseR_8_3 : caseR 8 3 = true := by kernel_rfl
theorem caseR_9_0 : caseR 9 0 = true := by kernel_rfl
theorem caseR_9_1 : caseR 9 1 = true := by kernel_rfl
theorem caseR_9_2 : caseR 9 2 = true := by kernel_rfl
theorem caseR_9_3 : caseR 9 3 = true := by kernel_rfl
end Go.Proofs.YtoehnfohceihbaaGreatDoor

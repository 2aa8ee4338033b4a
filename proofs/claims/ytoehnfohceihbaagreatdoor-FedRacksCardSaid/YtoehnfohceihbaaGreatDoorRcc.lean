/- The law at some of its pairs of numbers, run by the kernel. Conditions: none. -/
import Derived.Test.YtoehnfohceihbaaGreatDoorRt
import Derived.KernelRfl

set_option maxRecDepth 100000
set_option linter.unusedVariables false
namespace Go.Proofs.YtoehnfohceihbaaGreatDoor
open Go.Vx
theorem caseR_10_0 : caseR 10 0 = true := by kernel_rfl
theorem caseR_10_1 : caseR 10 1 = true := by kernel_rfl
theorem caseR_10_2 : caseR 10 2 = true := by kernel_rfl
theorem caseR_10_3 : caseR 10 3 = true := by kernel_rfl
theorem caseR_11_0 : caseR 11 0 = true := by kernel_rfl
theorem caseR_11_1 : caseR 11 1 = true := by kernel_rfl
theorem caseR_11_2 : caseR 11 2 = true := by kernel_rfl
theorem caseR_11_3 : caseR 11 3 = true := by kernel_rfl
theorem caseR_12_0 : caseR 12 0 = true := by kernel_rfl
theorem caseR_12_1 : caseR 12 1 = true := by kernel_rfl
theorem caseR_12_2 : caseR 12 2 = true := by kernel_rfl
theorem caseR_12_3 : caseR 12 3 = true := by kernel_rfl
theorem caseR_13_0 : caseR 13 0 = true := by kernel_rfl
theorem caseR_13_1 : caseR 13 1 = true := by kernel_rfl
theorem caseR_13_2 : caseR 13 2 = true := by kernel_rfl
theorem caseR_13_3 : caseR 13 3 = true := by kernel_rfl
theorem caseR_14_0 : caseR 14 0 = true := by kernel_rfl
theorem caseR_14_1 : caseR 14 1 = true := by kernel_rfl
theorem caseR_14_2 : caseR 14 2 = true := by kernel_rfl
theorem caseR_14_3 : caseR 14 3 = true := by kernel_rfl
end Go.Proofs.YtoehnfohceihbaaGreatDoor

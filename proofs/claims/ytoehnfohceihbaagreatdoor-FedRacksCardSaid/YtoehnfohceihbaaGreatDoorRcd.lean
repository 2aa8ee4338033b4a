/- The law at some of its pairs of numbers, run by the kernel. Conditions: none. -/
import Derived.Test.YtoehnfohceihbaaGreatDoorRt
import Derived.KernelRfl

set_option maxRecDepth 100000
set_option linter.unusedVariables false
namespace Go.Proofs.YtoehnfohceihbaaGreatDoor
open Go.Vx
theorem caseR_15_0 : caseR 15 0 = true := by kernel_rfl
theorem caseR_15_1 : caseR 15 1 = true := by kernel_rfl
theorem caseR_15_2 : caseR 15 2 = true := by kernel_rfl
theorem caseR_15_3 : caseR 15 3 = true := by kernel_rfl
theorem caseR_16_0 : caseR 16 0 = true := by kernel_rfl
theorem caseR_16_1 : caseR 16 1 = true := by kernel_rfl
theorem caseR_16_2 : caseR 16 2 = true := by kernel_rfl
theorem caseR_16_3 : caseR 16 3 = true := by kernel_rfl
theorem caseR_17_0 : caseR 17 0 = true := by kernel_rfl
theorem caseR_17_1 : caseR 17 1 = true := by kernel_rfl
theorem caseR_17_2 : caseR 17 2 = true := by kernel_rfl
theorem caseR_17_3 : caseR 17 3 = true := by kernel_rfl
theorem caseR_18_0 : caseR 18 0 = true := by kernel_rfl
theorem caseR_18_1 : caseR 18 1 = true := by kernel_rfl
theorem caseR_18_2 : caseR 18 2 = true := by kernel_rfl
theorem caseR_18_3 : caseR 18 3 = true := by kernel_rfl
theorem caseR_19_0 : caseR 19 0 = true := by kernel_rfl
theorem caseR_19_1 : caseR 19 1 = true := by kernel_rfl
theorem caseR_19_2 : caseR 19 2 = true := by kernel_rfl
theorem caseR_19_3 : caseR 19 3 = true := by kernel_rfl
end Go.Proofs.YtoehnfohceihbaaGreatDoor

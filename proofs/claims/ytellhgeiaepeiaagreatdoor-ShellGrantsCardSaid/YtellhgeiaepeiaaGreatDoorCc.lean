/- The law at some of its pairs of numbers, run by the kernel. Conditions: none. -/
import Derived.Test.YtellhgeiaepeiaaGreatDoorI

set_option maxRecDepth 100000
set_option linter.unusedVariables false
namespace Go.Proofs.YtellhgeiaepeiaaGreatDoor
open Go.Vx
theorem case_1_0 : caseK 1 0 = true := by kernel_rfl
theorem case_1_1 : caseK 1 1 = true := by kernel_rfl
theorem case_1_2 : caseK 1 2 = true := by kernel_rfl
theorem case_1_3 : caseK 1 3 = true := by kernel_rfl
end Go.Proofs.YtellhgeiaepeiaaGreatDoor

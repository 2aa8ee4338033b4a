/- The law at some of its pairs of numbers, run by the kernel. Conditions: none. -/
import Derived.Test.YtellhgeiaepeiaaGreatDoorI

set_option maxRecDepth 100000
set_option linter.unusedVariables false
namespace Go.Proofs.YtellhgeiaepeiaaGreatDoor
open Go.Vx
theorem case_3_0 : caseK 3 0 = true := by kernel_rfl
theorem case_3_1 : caseK 3 1 = true := by kernel_rfl
theorem case_3_2 : caseK 3 2 = true := by kernel_rfl
theorem case_3_3 : caseK 3 3 = true := by kernel_rfl
end Go.Proofs.YtellhgeiaepeiaaGreatDoor

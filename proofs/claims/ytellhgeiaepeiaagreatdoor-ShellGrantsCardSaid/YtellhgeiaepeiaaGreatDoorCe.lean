/- The law at some of its pairs of numbers, run by the kernel. Conditions: none. -/
import Derived.Test.YtellhgeiaepeiaaGreatDoorI

set_option maxRecDepth 100000
set_option linter.unusedVariables false
namespace Go.Proofs.YtellhgeiaepeiaaGreatDoor
open Go.Vx
theorem case_2_0 : caseK 2 0 = true := by kernel_rfl
theorem case_2_1 : caseK 2 1 = true := by kernel_rfl
theorem case_2_2 : caseK 2 2 = true := by kernel_rfl
theorem case_2_3 : caseK 2 3 = true := by kernel_rfl
end Go.Proofs.YtellhgeiaepeiaaGreatDoor

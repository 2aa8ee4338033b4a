/- The law at some of its pairs of numbers, run by the kernel. Conditions: none. -/
import Derived.Test.YtellhgeiaepeiaaGreatDoorI

set_option maxRecDepth 100000
set_option linter.unusedVariables false
namespace Go.Proofs.YtellhgeiaepeiaaGreatDoor
open Go.Vx
theorem case_0_0 : caseK 0 0 = true := by kernel_rfl
theorem case_0_1 : caseK 0 1 = true := by kernel_rfl
theorem case_0_2 : caseK 0 2 = true := by kernel_rfl
theorem case_0_3 : caseK 0 3 = true := by kernel_rfl
end Go.Proofs.YtellhgeiaepeiaaGreatDoor

/- The law at some of its pairs of numbers, run by the kernel. Conditions: none. -/
import Derived.Test.YtellhgeiaepeiaaGreatDoorI

set_option maxRecDepth 100000
set_option linter.unusedVariables false
namespace Go.Proofs.YtellhgeiaepeiaaGreatDoor
open Go.Vx
theorem case_1_4 : caseK 1 4 = true := by kernel_rfl
theorem case_1_5 : caseK 1 5 = true := by kernel_rfl
theorem case_1_6 : caseK 1 6 = true := by kernel_rfl
theorem case_1_7 : caseK 1 7 = true := by kernel_rfl
end Go.Proofs.YtellhgeiaepeiaaGreatDoor

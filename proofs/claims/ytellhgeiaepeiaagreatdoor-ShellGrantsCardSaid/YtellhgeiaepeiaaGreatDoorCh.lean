/- The law at some of its pairs of numbers, run by the kernel. Conditions: none. -/
import Derived.Test.YtellhgeiaepeiaaGreatDoorI

set_option maxRecDepth 100000
set_option linter.unusedVariables false
namespace Go.Proofs.YtellhgeiaepeiaaGreatDoor
open Go.Vx
theorem case_3_4 : caseK 3 4 = true := by kernel_rfl
theorem case_3_5 : caseK 3 5 = true := by kernel_rfl
theorem case_3_6 : caseK 3 6 = true := by kernel_rfl
theorem case_3_7 : caseK 3 7 = true := by kernel_rfl
end Go.Proofs.YtellhgeiaepeiaaGreatDoor

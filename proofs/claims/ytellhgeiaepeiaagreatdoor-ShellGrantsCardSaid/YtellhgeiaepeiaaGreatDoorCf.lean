/- The law at some of its pairs of numbers, run by the kernel. Conditions: none. -/
import Derived.Test.YtellhgeiaepeiaaGreatDoorI

set_option maxRecDepth 100000
set_option linter.unusedVariables false
namespace Go.Proofs.YtellhgeiaepeiaaGreatDoor
open Go.Vx
theorem case_2_4 : caseK 2 4 = true := by kernel_rfl
theorem case_2_5 : caseK 2 5 = true := by kernel_rfl
theorem case_2_6 : caseK 2 6 = true := by kernel_rfl
theorem case_2_7 : caseK 2 7 = true := by kernel_rfl
end Go.Proofs.YtellhgeiaepeiaaGreatDoor

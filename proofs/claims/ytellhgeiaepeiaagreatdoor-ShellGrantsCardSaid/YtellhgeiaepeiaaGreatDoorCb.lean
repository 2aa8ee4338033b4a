/- The law at some of its pairs of numbers, run by the kernel. Conditions: none. -/
import Derived.Test.YtellhgeiaepeiaaGreatDoorI

set_option maxRecDepth 100000
set_option linter.unusedVariables false
namespace Go.Proofs.YtellhgeiaepeiaaGreatDoor
open Go.Vx
theorem case_0_4 : caseK 0 4 = true := by kernel_rfl
theorem case_0_5 : caseK 0 5 = true := by kernel_rfl
theorem case_0_6 : caseK 0 6 = true := by kernel_rfl
theorem case_0_7 : caseK 0 7 = true := by kernel_rfl
end Go.Proofs.YtellhgeiaepeiaaGreatDoor

/- The law at some of its numbers, run by the kernel. Conditions: none. -/
import Derived.Test.YtoehnfohceihbaaGreatDoorEt
import Derived.KernelRfl

set_option maxRecDepth 100000
set_option linter.unusedVariables false
namespace Go.Proofs.YtoehnfohceihbaaGreatDoor
open Go.Vx
theorem p2_1 (a b : Int) : okRg 4 (zE a b) [(2, 3), (13, 26)] = true := by kernel_rfl
theorem p2_2 (a b : Int) : okRg 4 (zE a b) [(2, 3), (26, 39)] = true := by kernel_rfl
theorem p2_3 (a b : Int) : okRg 4 (zE a b) [(2, 3), (39, 52)] = true := by kernel_rfl
end Go.Proofs.YtoehnfohceihbaaGreatDoor

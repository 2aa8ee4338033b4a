/- The law at some of its numbers, run by the kernel. Conditions: none. -/
import Derived.Test.YtoehnfohceihbaaGreatDoorEt
import Derived.KernelRfl

set_option maxRecDepth 100000
set_option linter.unusedVariables false
namespace Go.Proofs.YtoehnfohceihbaaGreatDoor
open Go.Vx
theorem p1_0 (a b : Int) : okRg 4 (zE a b) [(1, 2), (0, 13)] = true := by kernel_rfl
theorem p1_1 (a b : Int) : okRg 4 (zE a b) [(1, 2), (13, 26)] = true := by kernel_rfl
theorem p1_2 (a b : Int) : okRg 4 (zE a b) [(1, 2), (26, 39)] = true := by kernel_rfl
end Go.Proofs.YtoehnfohceihbaaGreatDoor

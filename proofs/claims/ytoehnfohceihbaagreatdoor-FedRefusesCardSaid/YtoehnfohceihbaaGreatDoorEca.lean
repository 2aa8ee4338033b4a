/- The law at some of its numbers, run by the kernel. Conditions: none. -/
import Derived.Test.YtoehnfohceihbaaGreatDoorEt
import Derived.KernelRfl

set_option maxRecDepth 100000
set_option linter.unusedVariables false
namespace Go.Proofs.YtoehnfohceihbaaGreatDoor
open Go.Vx
theorem p0 (a b : Int) : okRg 4 (zE a b) [(0, 1)] = true := by kernel_rfl
theorem p3 (a b : Int) : okRg 4 (zE a b) [(3, 6)] = true := by kernel_rfl
theorem p6 (a b : Int) : okRg 4 (zE a b) [(6, 1000)] = true := by kernel_rfl
end Go.Proofs.YtoehnfohceihbaaGreatDoor

/- The law at some of its numbers, run by the kernel. Conditions: none. -/
import Derived.Test.YtoehnfohceihbaaGreatDoorEt
import Derived.KernelRfl

set_option maxRecDepth 100000
set_option linter.unusedVariables false
namespace Go.Proofs.YtoehnfohceihbaaGreatDoor
open Go.Vx
theorem p1_3 (a b : Int) : okRg 4 (zE a b) [(1, 2), (39, 52)] = true := by kernel_rfl
theorem p1_4 (a b : Int) : okRg 4 (zE a b) [(1, 2), (52, 65)] = true := by kernel_rfl
theorem p1_5 (a b : Int) : okRg 4 (zE a b) [(1, 2), (65, 78)] = true := by kernel_rfl
end Go.Proofs.YtoehnfohceihbaaGreatDoor

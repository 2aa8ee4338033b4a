/- What is left of the law behind its head. Conditions: none. -/
import Derived.Test.YtoehnfohceihbaaGreatDoorBrefuses
import Derived.Test.YtoehnfohceihbaaGreatDoorVc

set_option maxRecDepth 100000
set_option linter.unusedVariables false
namespace Go.Proofs.YtoehnfohceihbaaGreatDoor
open Go.Vx
noncomputable def restE : C := dropC 3 vf6.body
noncomputable def trE (a b : Int) : TT := finK (some 5) (.ptr 5 0) (finK (some 22) (.ptr 5 0) (finK (some 21) (.agg [.int .i64 10, .int .i64 10]) (finK (some 20) (.bool false) (finK (some 19) (.bool true) (finK (some 4) (.bool false) (enterK [.int .i64 a, .int .i64 b]))))))
noncomputable def zE (a b : Int) : Tz := topK 8 rcF restE (trE a b) hB 2305
end Go.Proofs.YtoehnfohceihbaaGreatDoor

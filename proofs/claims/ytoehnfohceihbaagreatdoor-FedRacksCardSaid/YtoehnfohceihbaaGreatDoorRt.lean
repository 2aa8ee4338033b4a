/- What is left of the law behind its head. Conditions: none. -/
import Derived.Test.YtoehnfohceihbaaGreatDoorBracks

set_option maxRecDepth 100000
set_option linter.unusedVariables false
namespace Go.Proofs.YtoehnfohceihbaaGreatDoor
open Go.Vx
def rk (u : Nat) : Int := vwrap .i64 (vsub (.ofNat u) (.ofNat 1))
noncomputable def restR : C := dropC 4 vf4.body
noncomputable def trR (r u : Nat) : TT := finK (some 5) (.ptr 7 0) (finK (some 17) (.ptr 7 0) (finK (some 16) (.agg [.int .i64 40, .int .i64 40]) (finK (some 1) (.int .i64 (rk u)) (finK (some 0) (.int .i64 (.ofNat (1 + r))) (finK (some 15) (.int .i64 (rk u)) (finK (some 14) (.int .i64 (.ofNat u)) (finK (some 12) (.int .i64 (.ofNat (1 + r))) (finK (some 11) (.int .i64 (.ofNat r)) (finK (some 9) (.bool false) (finK (some 8) (.bool true) (finK (some 4) (.bool false) (T0))))))))))))
noncomputable def caseR (r u : Nat) : Bool := okR 4 (codeK rcF restR (trR r u) hB 2311)
end Go.Proofs.YtoehnfohceihbaaGreatDoor

/- What is known of functions beside their text: strings.Join, slices.Insert, the chapter's example, the remainder. Conditions: none. -/
import Derived.Test.YtellhgeiaepeiaaGreatDoorP
import Derived.Test.YtellhgeiaepeiaaGreatDoorVc
import Derived.Test.YtellhgeiaepeiaaGreatDoorJn

set_option maxRecDepth 100000
set_option linter.unusedVariables false
namespace Go.Proofs.YtellhgeiaepeiaaGreatDoor
open Go.Vx
theorem mixed : Tryz.prog.follows .mixedOrders = true := by kernel_rfl
noncomputable def insL : List (Nat × Nat × Nat) := [(231, 8, 102), (296, 14, 104), (301, 8, 114), (392, 9, 116)]
noncomputable def ikK : Nat → Option (List Val → (Nat → Blk) → Nat → Option Ef) := stdK 60 insL
theorem enter60 : Enterable Tryz.prog 60 := ⟨_, _, Tryz.func60, rfl, by kernel_rfl⟩
theorem joinSpec : JoinSpec Tryz.prog 60 := ⟨enter60, fun a c sep w => Tryz.strings_Join_none a c sep w, fun bk o c xs sep w h1 h2 h3 h4 h5 => Tryz.strings_Join bk o c xs sep w h1 h2 h3 h4 h5⟩
theorem ins231 : InsText pK (231, 8, 102) := ⟨64, [(.int .i64 (0)), (.int .i64 (0)), (.int .i64 (0)), (.int .i64 (0)), (.int .i64 (0)), (.int .i64 (0)), (.int .i64 (0)), (.bool false)], 293, vf231, rfl, rfl, rfl, rfl, by decide⟩
theorem ins296 : InsText pK (296, 14, 104) := ⟨200, [(.int .i64 (0)), (.int .i64 (0)), (.str []), (.int .i64 (0)), (.int .i64 (0)), (.int .i64 (0)), (.int .i64 (0)), .nils, (.int .i64 (0)), (.int .i64 (0)), .nils, .nils, .nils, .nils], 332, vf296, rfl, rfl, rfl, rfl, by decide⟩
theorem ins301 : InsText pK (301, 8, 114) := ⟨64, [(.int .i64 (0)), (.int .i64 (0)), (.int .i64 (0)), (.int .i64 (0)), (.int .i64 (0)), (.int .i64 (0)), (.int .i64 (0)), (.int .i64 (0))], 337, vf301, rfl, rfl, rfl, rfl, by decide⟩
theorem ins392 : InsText pK (392, 9, 116) := ⟨72, [(.int .i64 (0)), (.int .i64 (0)), (.int .i64 (0)), (.int .i64 (0)), (.int .i64 (0)), (.int .i64 (0)), (.int .i64 (0)), (.bool false), (.int .i64 (0))], 410, vf392, rfl, rfl, rfl, rfl, by decide⟩
theorem std : ∀ B0, IOk Tryz.prog B0 (IK ikK) := std_ok hp mixed joinSpec insL (fun q hq => by
  simp only [insL, List.mem_cons, List.mem_nil_iff, or_false] at hq
  rcases hq with rfl | rfl | rfl | rfl
  · exact ins231
  · exact ins296
  · exact ins301
  · exact ins392)
def isV : Cz → Bool
  | .val (.bool true) _ _ => true
  | _ => false
theorem known_run : isV (runK ikK pK 100 4 [] H0 0) = true := by kernel_rfl
theorem known_ok : ∀ B0, IOk Tryz.prog B0 (closedI 4 true) := fun B0 => by
  have h := known_run
  cases e : runK ikK pK 100 4 [] H0 0 with
  | fail => rw [e] at h; cases h
  | val v h' nx' =>
    rw [e] at h
    cases v with
    | bool b =>
      cases b with
      | true => exact closed_ok hp mixed std e (enterable_of q4) B0
      | false => cases h
    | _ => cases h
def lawI : Intr := fun f xs W K => IK ikK f xs W K ∨ (closedI 4 true f xs W K ∨ withinI 5 f xs W K)
theorem law_ok : ∀ B0, IOk Tryz.prog B0 lawI := fun B0 => (std B0).or ((known_ok B0).or (within_ok hp mixed (f := 5) (vf := vf5) rfl rfl rfl B0))
def restOf : C → C
  | .seq _ (.seq _ (.seq _ r)) => r
  | c => c
noncomputable def rest : C := restOf vf3.body
/-- the slots behind the law's head -/
noncomputable def tr (r u : Nat) : TT := finK (some 1) (.int .i64 (.ofNat u)) (finK (some 0) (.int .i64 (.ofNat r)) (finK (some 16) (.int .i64 (.ofNat u)) (finK (some 14) (.int .i64 (.ofNat r)) (finK (some 12) (.bool false) (finK (some 11) (.bool true) (finK (some 4) (.bool false) T0))))))
/-- the law at one pair of numbers -/
noncomputable def caseK (r u : Nat) : Bool := okR 4 (codeK (runK ikK pK 100) rest (tr r u) H0 0)
end Go.Proofs.YtellhgeiaepeiaaGreatDoor

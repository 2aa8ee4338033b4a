/- The law's head: every pair of numbers comes down to one of thirty-two. Conditions: what the thirty-two come to. -/
import Derived.Test.YtellhgeiaepeiaaGreatDoorI

set_option maxRecDepth 100000
set_option linter.unusedVariables false
namespace Go.Proofs.YtellhgeiaepeiaaGreatDoor
open Go.Vx

theorem tr_slots (r u i : Nat) : gT (tr r u) i = finish (some 1) (.int .i64 (.ofNat u)) (finish (some 0) (.int .i64 (.ofNat r)) (finish (some 16) (.int .i64 (.ofNat u)) (finish (some 14) (.int .i64 (.ofNat r)) (finish (some 12) (.bool false) (finish (some 11) (.bool true) (finish (some 4) (.bool false) (fun _ => .undef))))))) i := by
  unfold tr
  have h0 : gT T0 = fun _ => .undef := funext gT_T0
  rw [gT_fin rfl, gT_fin rfl, gT_fin rfl, gT_fin rfl, gT_fin rfl, gT_fin rfl, gT_fin rfl, h0]

theorem fin_ne {d i : Nat} {v : Val} {a : Tm} (h : i ≠ d) : finish (some d) v a i = a i := by
  show setT a d v i = a i
  unfold setT
  rw [beq_false h]
  rfl
theorem head_ev {K : Out → Prop} (a b : Int) (h : ∀ r u, r < 4 → u < 8 → Ev lawI pK rest (gT (tr r u)) ⟨gH H0, 0⟩ K) : Ev lawI pK vf3.body (enter [.int .i64 a, .int .i64 b]) ⟨gH H0, 0⟩ K := by
  show Ev lawI pK (.seq _ (.seq _ (.seq _ rest))) _ _ _
  refine seqG (W1 := ⟨gH H0, 0⟩) (Q := fun t => t 0 = .int .i64 a ∧ t 1 = .int .i64 b ∧ ∀ i, i ≠ 0 → i ≠ 1 → t i = finish (some 4) (.bool false) (fun _ => .undef) i) (.pu rfl rfl rfl (.nil ⟨_, rfl, rfl, rfl, fun i h0 h1 => ?_⟩)) ?_
  · by_cases h4 : i = 4
    · subst h4; rfl
    · refine (fin_ne (v := .bool false) (a := enter [.int .i64 a, .int .i64 b]) h4).trans (Eq.trans ?_ (fin_ne (v := .bool false) h4).symm)
      rcases i with _ | _ | i
      · exact absurd rfl h0
      · exact absurd rfl h1
      · rfl
  rintro t ⟨h0, h1, hr⟩
  refine seqG (W1 := ⟨gH H0, 0⟩) (Q := fun t => t 0 = .int .i64 a ∧ t 1 = .int .i64 b ∧ ∀ i, i ≠ 0 → i ≠ 1 → t i = finish (some 12) (.bool false) (finish (some 11) (.bool true) (finish (some 4) (.bool false) (fun _ => .undef))) i) (seqG (W1 := ⟨gH H0, 0⟩) (Q := fun t => (t 0 = .int .i64 a ∧ t 1 = .int .i64 b ∧ ∀ i, i ≠ 0 → i ≠ 1 → t i = finish (some 12) (.bool false) (finish (some 11) (.bool true) (finish (some 4) (.bool false) (fun _ => .undef))) i) ∧ t 12 = .bool false) ?_ (fun t ⟨ht, h12⟩ => .cond false h12 (.skip ⟨_, rfl, ht⟩))) ?_
  · refine .intr (K1 := fun v W => v = .bool true ∧ W = ⟨gH H0, 0⟩) rfl rfl (.inr (.inl ⟨rfl, rfl, rfl, rfl⟩)) ?_
    rintro v W ⟨rfl, rfl⟩
    refine .pu rfl rfl rfl (.nil ⟨_, rfl, ⟨h0, h1, fun i g0 g1 => ?_⟩, rfl⟩)
    by_cases h12 : i = 12
    · subst h12; rfl
    · by_cases h11 : i = 11
      · subst h11; rfl
      · show setT (setT t 11 _) 12 _ i = setT (setT _ 11 _) 12 _ i
        unfold setT
        rw [beq_false h12, beq_false h11]
        exact hr i g0 g1
  clear h0 h1 hr t
  rintro t ⟨h0, h1, hr⟩
  refine .seq (K1 := fun o => ∃ r u t', r < 4 ∧ u < 8 ∧ o = .norm t' ⟨gH H0, 0⟩ ∧ ∀ i, gT (tr r u) i = t' i ∨ gT (tr r u) i = .undef) ?_ (fun t' w' hk => ?_) (fun j t' w' ⟨r, u, t2, _, _, e, _⟩ => by cases e) (fun t' w' ⟨r, u, t2, _, _, e, _⟩ => by cases e)
  · refine .pu rfl rfl rfl ?_
    refine .intr (K1 := fun v W => ∃ r, r < 4 ∧ v = .int .i64 (.ofNat r) ∧ W = ⟨gH H0, 0⟩) rfl rfl (.inr (.inr ⟨rfl, a, 4, ?_, by decide, by decide, fun r hr => ⟨r, hr, rfl, rfl⟩⟩)) ?_
    · show [t 0, _] = _
      rw [h0]
      rfl
    rintro v W ⟨r, hr4, rfl, rfl⟩
    refine .pu rfl rfl rfl ?_
    refine .intr (K1 := fun v W => ∃ u, u < 8 ∧ v = .int .i64 (.ofNat u) ∧ W = ⟨gH H0, 0⟩) rfl rfl (.inr (.inr ⟨rfl, b, 8, ?_, by decide, by decide, fun r hr => ⟨r, hr, rfl, rfl⟩⟩)) ?_
    · show [t 1, _] = _
      rw [h1]
      rfl
    rintro v W ⟨u, hu8, rfl, rfl⟩
    refine .pu rfl rfl rfl (.pu rfl rfl rfl (.nil ⟨r, u, _, hr4, hu8, rfl, fun i => ?_⟩))
    rw [tr_slots]
    by_cases g1 : i = 1
    · subst g1; exact .inl rfl
    by_cases g0 : i = 0
    · subst g0; exact .inl rfl
    by_cases g16 : i = 16
    · subst g16; exact .inl rfl
    by_cases g14 : i = 14
    · subst g14; exact .inl rfl
    have e1 : finish (some 1) (.int .i64 (.ofNat u)) (finish (some 0) (.int .i64 (.ofNat r)) (finish (some 16) (.int .i64 (.ofNat u)) (finish (some 14) (.int .i64 (.ofNat r)) (finish (some 12) (.bool false) (finish (some 11) (.bool true) (finish (some 4) (.bool false) (fun _ => .undef))))))) i = finish (some 12) (.bool false) (finish (some 11) (.bool true) (finish (some 4) (.bool false) (fun _ => .undef))) i := by
      show setT (setT (setT (setT _ 14 _) 16 _) 0 _) 1 _ i = _
      unfold setT
      rw [beq_false g1, beq_false g0, beq_false g16, beq_false g14]
      rfl
    rw [e1]
    by_cases g13 : i = 13
    · subst g13; exact .inr rfl
    by_cases g15 : i = 15
    · subst g15; exact .inr rfl
    left
    rw [← hr i g0 g1]
    show t i = setT (setT (setT (setT (setT (setT t 13 _) 14 _) 15 _) 16 _) 0 _) 1 _ i
    unfold setT
    rw [beq_false g1, beq_false g0, beq_false g16, beq_false g14, beq_false g13, beq_false g15]
    rfl
  · obtain ⟨r, u, t2, hr4, hu8, e, hw⟩ := hk
    cases e
    exact .weak (fun l wat e => by have e2 : rest = .seq _ _ := rfl; rw [e2] at e; cases e) hw (h r u hr4 hu8)
end Go.Proofs.YtellhgeiaepeiaaGreatDoor

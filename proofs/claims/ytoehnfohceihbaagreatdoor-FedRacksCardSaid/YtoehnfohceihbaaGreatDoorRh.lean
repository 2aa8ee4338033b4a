/- The law's head: every pair of numbers comes down to one of eighty. Conditions: none. -/
import Derived.Test.YtoehnfohceihbaaGreatDoorRt
import Derived.Test.YtoehnfohceihbaaGreatDoorKracks
import Derived.Test.YtoehnfohceihbaaGreatDoorRca
import Derived.Test.YtoehnfohceihbaaGreatDoorRcb
import Derived.Test.YtoehnfohceihbaaGreatDoorRcc
import Derived.Test.YtoehnfohceihbaaGreatDoorRcd

set_option maxRecDepth 100000
set_option linter.unusedVariables false
namespace Go.Proofs.YtoehnfohceihbaaGreatDoor
open Go.Vx
theorem trR_slots (r u i : Nat) : gT (trR r u) i = (finish (some 5) (.ptr 7 0) (finish (some 17) (.ptr 7 0) (finish (some 16) (.agg [.int .i64 40, .int .i64 40]) (finish (some 1) (.int .i64 (rk u)) (finish (some 0) (.int .i64 (.ofNat (1 + r))) (finish (some 15) (.int .i64 (rk u)) (finish (some 14) (.int .i64 (.ofNat u)) (finish (some 12) (.int .i64 (.ofNat (1 + r))) (finish (some 11) (.int .i64 (.ofNat r)) (finish (some 9) (.bool false) (finish (some 8) (.bool true) (finish (some 4) (.bool false) (fun _ => .undef))))))))))))) i := by
  unfold trR
  have h0 : gT T0 = fun _ => .undef := funext gT_T0
  rw [gT_fin rfl, gT_fin rfl, gT_fin rfl, gT_fin rfl, gT_fin rfl, gT_fin rfl, gT_fin rfl, gT_fin rfl, gT_fin rfl, gT_fin rfl, gT_fin rfl, gT_fin rfl, h0]
theorem fin_ne {d i : Nat} {v : Val} {a : Tm} (h : i ≠ d) : finish (some d) v a i = a i := by
  show setT a d v i = a i
  unfold setT
  rw [beq_false h]
  rfl
def isV : Cz → Bool
  | .val (.bool true) _ _ => true
  | _ => false
theorem known_run : isV (runK ikF pK 100 7 [] H0 0) = true := by kernel_rfl
theorem known_ok : ∀ B0, IOk Tryz.prog B0 (closedI 7 true) := fun B0 => by
  have h := known_run
  cases e : runK ikF pK 100 7 [] H0 0 with
  | fail => rw [e] at h; cases h
  | val v h' nx' =>
    rw [e] at h
    cases v with
    | bool b =>
      cases b with
      | true => exact closed_ok hp mixed ikF_ok e (enterable_of q7) B0
      | false => cases h
    | _ => cases h
def lawR : Intr := fun f xs W K => IK ikF f xs W K ∨ (closedI 7 true f xs W K ∨ (withinI 8 f xs W K ∨ begI f xs W K))
theorem lawR_ok : ∀ B0, IOk Tryz.prog B0 lawR := fun B0 => (ikF_ok B0).or ((known_ok B0).or ((within_ok hp mixed (f := 8) (vf := vf8) rfl rfl rfl B0).or (beg_ok B0)))
theorem case_all : ∀ r u, r < 20 → u < 4 → caseR r u = true
  | 0, 0, _, _ => caseR_0_0
  | 0, 1, _, _ => caseR_0_1
  | 0, 2, _, _ => caseR_0_2
  | 0, 3, _, _ => caseR_0_3
  | 1, 0, _, _ => caseR_1_0
  | 1, 1, _, _ => caseR_1_1
  | 1, 2, _, _ => caseR_1_2
  | 1, 3, _, _ => caseR_1_3
  | 2, 0, _, _ => caseR_2_0
  | 2, 1, _, _ => caseR_2_1
  | 2, 2, _, _ => caseR_2_2
  | 2, 3, _, _ => caseR_2_3
  | 3, 0, _, _ => caseR_3_0
  | 3, 1, _, _ => caseR_3_1
  | 3, 2, _, _ => caseR_3_2
  | 3, 3, _, _ => caseR_3_3
  | 4, 0, _, _ => caseR_4_0
  | 4, 1, _, _ => caseR_4_1
  | 4, 2, _, _ => caseR_4_2
  | 4, 3, _, _ => caseR_4_3
  | 5, 0, _, _ => caseR_5_0
  | 5, 1, _, _ => caseR_5_1
  | 5, 2, _, _ => caseR_5_2
  | 5, 3, _, _ => caseR_5_3
  | 6, 0, _, _ => caseR_6_0
  | 6, 1, _, _ => caseR_6_1
  | 6, 2, _, _ => caseR_6_2
  | 6, 3, _, _ => caseR_6_3
  | 7, 0, _, _ => caseR_7_0
  | 7, 1, _, _ => caseR_7_1
  | 7, 2, _, _ => caseR_7_2
  | 7, 3, _, _ => caseR_7_3
  | 8, 0, _, _ => caseR_8_0
  | 8, 1, _, _ => caseR_8_1
  | 8, 2, _, _ => caseR_8_2
  | 8, 3, _, _ => caseR_8_3
  | 9, 0, _, _ => caseR_9_0
  | 9, 1, _, _ => caseR_9_1
  | 9, 2, _, _ => caseR_9_2
  | 9, 3, _, _ => caseR_9_3
  | 10, 0, _, _ => caseR_10_0
  | 10, 1, _, _ => caseR_10_1
  | 10, 2, _, _ => caseR_10_2
  | 10, 3, _, _ => caseR_10_3
  | 11, 0, _, _ => caseR_11_0
  | 11, 1, _, _ => caseR_11_1
  | 11, 2, _, _ => caseR_11_2
  | 11, 3, _, _ => caseR_11_3
  | 12, 0, _, _ => caseR_12_0
  | 12, 1, _, _ => caseR_12_1
  | 12, 2, _, _ => caseR_12_2
  | 12, 3, _, _ => caseR_12_3
  | 13, 0, _, _ => caseR_13_0
  | 13, 1, _, _ => caseR_13_1
  | 13, 2, _, _ => caseR_13_2
  | 13, 3, _, _ => caseR_13_3
  | 14, 0, _, _ => caseR_14_0
  | 14, 1, _, _ => caseR_14_1
  | 14, 2, _, _ => caseR_14_2
  | 14, 3, _, _ => caseR_14_3
  | 15, 0, _, _ => caseR_15_0
  | 15, 1, _, _ => caseR_15_1
  | 15, 2, _, _ => caseR_15_2
  | 15, 3, _, _ => caseR_15_3
  | 16, 0, _, _ => caseR_16_0
  | 16, 1, _, _ => caseR_16_1
  | 16, 2, _, _ => caseR_16_2
  | 16, 3, _, _ => caseR_16_3
  | 17, 0, _, _ => caseR_17_0
  | 17, 1, _, _ => caseR_17_1
  | 17, 2, _, _ => caseR_17_2
  | 17, 3, _, _ => caseR_17_3
  | 18, 0, _, _ => caseR_18_0
  | 18, 1, _, _ => caseR_18_1
  | 18, 2, _, _ => caseR_18_2
  | 18, 3, _, _ => caseR_18_3
  | 19, 0, _, _ => caseR_19_0
  | 19, 1, _, _ => caseR_19_1
  | 19, 2, _, _ => caseR_19_2
  | 19, 3, _, _ => caseR_19_3
  | r + 20, _, hr, _ => by omega
  | _, u + 4, _, hu => by omega

theorem racks_ev (a b : Int) : Ev lawR pK vf4.body (enter [.int .i64 a, .int .i64 b]) ⟨gH H0, 0⟩ (SaidT 4) := by
  show Ev lawR pK (.seq _ (.seq _ (.seq _ (.seq _ restR)))) _ _ _
  refine seqE (.pu rfl rfl rfl (.nil rfl)) ?_
  refine seqE (seqE (.intr (K1 := fun v W => v = .bool true ∧ W = ⟨gH H0, 0⟩) rfl rfl (.inr (.inl ⟨rfl, rfl, rfl, rfl⟩)) (fun v W ⟨e1, e2⟩ => by subst e1; subst e2; exact .pu rfl rfl rfl (.nil rfl))) (.cond false rfl (.skip rfl))) ?_
  refine .seq (K1 := fun o => ∃ r u, r < 20 ∧ u < 4 ∧ o = .norm (finish (some 1) (.int .i64 (rk u)) (finish (some 0) (.int .i64 (.ofNat (1 + r))) (finish (some 15) (.int .i64 (rk u)) (finish (some 14) (.int .i64 (.ofNat u)) (finish (some 13) (.int .i64 b) (finish (some 12) (.int .i64 (.ofNat (1 + r))) (finish (some 11) (.int .i64 (.ofNat r)) (finish (some 10) (.int .i64 a) (finish (some 9) (.bool false) (finish (some 8) (.bool true) (finish (some 4) (.bool false) (enter [.int .i64 a, .int .i64 b])))))))))))) ⟨gH H0, 0⟩) ?_ (fun t' w' ⟨r, u, hr, hu, e⟩ => ?_) (fun j t' w' ⟨r, u, _, _, e⟩ => by cases e) (fun t' w' ⟨r, u, _, _, e⟩ => by cases e)
  · refine .pu rfl rfl rfl ?_
    refine .intr (K1 := fun v W => ∃ r, r < 20 ∧ v = .int .i64 (.ofNat r) ∧ W = ⟨gH H0, 0⟩) rfl rfl (.inr (.inr (.inl ⟨rfl, a, 20, rfl, by decide, by decide, fun r hr => ⟨r, hr, rfl, rfl⟩⟩))) ?_
    rintro v W ⟨r, hr, rfl, rfl⟩
    refine .pu rfl rfl (ex_add (p := 1) (q := r) rfl rfl (by omega)) (.pu rfl rfl rfl ?_)
    refine .intr (K1 := fun v W => ∃ u, u < 4 ∧ v = .int .i64 (.ofNat u) ∧ W = ⟨gH H0, 0⟩) rfl rfl (.inr (.inr (.inl ⟨rfl, b, 4, rfl, by decide, by decide, fun r hr => ⟨r, hr, rfl, rfl⟩⟩))) ?_
    rintro v W ⟨u, hu, rfl, rfl⟩
    exact .pu rfl rfl rfl (.pu rfl rfl rfl (.pu rfl rfl rfl (.nil ⟨r, u, hr, hu, rfl⟩)))
  cases e
  refine seqE (.pu rfl rfl rfl (.intr (K1 := fun v W => v = .ptr 7 0 ∧ W = ⟨gH hB, 2311⟩) rfl rfl (.inr (.inr (.inr ⟨rfl, rfl, rfl, rfl, rfl⟩))) (fun v W ⟨e1, e2⟩ => by subst e1; subst e2; exact .pu rfl rfl rfl (.nil rfl)))) ?_
  have key : Ev lawR pK restR (gT (trR r u)) ⟨gH hB, 2311⟩ (SaidT 4) := rest_ev (fun f xs W K h => .inl h) (case_all r u hr hu)
  refine .weak (fun l wat e => by have e2 : restR = .seq _ _ := rfl; rw [e2] at e; cases e) (fun i => ?_) key
  rw [trR_slots]
  by_cases g4 : i = 4
  · subst g4; exact .inl rfl
  by_cases g8 : i = 8
  · subst g8; exact .inl rfl
  by_cases g9 : i = 9
  · subst g9; exact .inl rfl
  by_cases g11 : i = 11
  · subst g11; exact .inl rfl
  by_cases g12 : i = 12
  · subst g12; exact .inl rfl
  by_cases g14 : i = 14
  · subst g14; exact .inl rfl
  by_cases g15 : i = 15
  · subst g15; exact .inl rfl
  by_cases g0 : i = 0
  · subst g0; exact .inl rfl
  by_cases g1 : i = 1
  · subst g1; exact .inl rfl
  by_cases g16 : i = 16
  · subst g16; exact .inl rfl
  by_cases g17 : i = 17
  · subst g17; exact .inl rfl
  by_cases g5 : i = 5
  · subst g5; exact .inl rfl
  right
  rw [fin_ne g5, fin_ne g17, fin_ne g16, fin_ne g1, fin_ne g0, fin_ne g15, fin_ne g14, fin_ne g12, fin_ne g11, fin_ne g9, fin_ne g8, fin_ne g4]

theorem walkR (a b : Int) (w : World) : Calls Tryz.prog 4 #[.int .i64 a, .int .i64 b] w fun e w' => e = .returned (.bool true) ∧ w.keptBut w' (fun _ => False) :=
  said_calls hp mixed lawR_ok (vf := vf4) rfl rfl (racks_ev a b) (.cons _ _ _ _ (.int _ _) (.cons _ _ _ _ (.int _ _) .nil))
end Go.Proofs.YtoehnfohceihbaaGreatDoor

/- The router at its start: what the call comes to, whatever the order of the loop over a map. Conditions: none. -/
import Derived.Test.YtoehnfohceihbaaGreatDoorBrefuses
import Derived.Test.YtoehnfohceihbaaGreatDoorP
import Derived.Test.YtoehnfohceihbaaGreatDoorSo

set_option maxRecDepth 100000
set_option linter.unusedVariables false
namespace Go.Proofs.YtoehnfohceihbaaGreatDoor
open Go.Vx
theorem and2_split {a b : Bool} (h : and2 a b = true) : a = true ∧ b = true := by
  cases a with
  | false => cases h
  | true => exact ⟨rfl, h⟩
theorem rcok_mono {I J : Intr} {p : Nat → Option VF} {rc : RcT} (hIJ : ∀ f xs W K, I f xs W K → J f xs W K) (h : RcOk I p rc) : RcOk J p rc := fun f xs h0 nx v h' nx' e =>
  (h f xs h0 nx v h' nx' e).elim (fun ⟨vf, a, b⟩ => .inl ⟨vf, a, Ev.mono hIJ b⟩) (fun i => .inr (hIJ _ _ _ _ i))
theorem ikF_ok (B0 : Nat) : IOk Tryz.prog B0 (IK ikF) := or_ok (sortT_ok Tryz.sortedOne B0) (insAll B0)
theorem rcF_ok : RcOk (IK ikF) pK rcF := run_snd 100

theorem submit_ev : Ev (IK ikF) pK vf19.body (enter xsS) ⟨gH (hOf Z8), nOf Z8⟩ (EndAt vf19 (nOf Z8) (.int .i64 0) hS 419) := by
  have hc := chkS_true
  unfold chkS at hc
  obtain ⟨z7, hc⟩ := and2_split hc
  obtain ⟨z8, hc⟩ := and2_split hc
  obtain ⟨y6, hc⟩ := and2_split hc
  obtain ⟨y7, hc⟩ := and2_split hc
  obtain ⟨p0, hc⟩ := and2_split hc
  obtain ⟨p1, hc⟩ := and2_split hc
  obtain ⟨x10, hc⟩ := and2_split hc
  obtain ⟨x11, hc⟩ := and2_split hc
  obtain ⟨x20, hc⟩ := and2_split hc
  obtain ⟨x21, hc⟩ := and2_split hc
  obtain ⟨x30, hc⟩ := and2_split hc
  obtain ⟨x31, hc⟩ := and2_split hc
  obtain ⟨x40, hc⟩ := and2_split hc
  obtain ⟨x41, hc⟩ := and2_split hc
  obtain ⟨n0, hc⟩ := and2_split hc
  obtain ⟨n1, hc⟩ := and2_split hc
  obtain ⟨hl, hc⟩ := and2_split hc
  obtain ⟨hge, hpo⟩ := and2_split hc
  have n0' := Nat.eq_of_beq_eq_true n0
  have n1' := Nat.eq_of_beq_eq_true n1
  rw [← gT_enter hl]
  refine chain_ev rcF_ok 6 vf19.body (enterK xsS) (hOf Z8) (nOf Z8) (norm_eq y6) ?_
  show Ev _ _ (.seq (.seq (.ops (opsOf d19)) (.block 2 (.loop (.seq (.ops (⟨.ef (.nextM (.t 81)), some 82, none⟩ :: l19)) r19)))) (rOf d19)) _ _ _
  refine .seq (K1 := fun o => o = .norm (gT (tOf (X3 0))) ⟨gH (hOf (X3 0)), nOf (X3 0)⟩ ∨ o = .norm (gT (tOf (X3 1))) ⟨gH (hOf (X3 1)), nOf (X3 1)⟩) ?_ ?_ (fun i a' w' e => by rcases e with e | e <;> cases e) (fun a' w' e => by rcases e with e | e <;> cases e)
  · refine seq_norm rcF_ok (norm_eq y7) ?_
    refine .block (K1 := fun o => o = .exit 2 (gT (tOf (X3 0))) ⟨gH (hOf (X3 0)), nOf (X3 0)⟩ ∨ o = .exit 2 (gT (tOf (X3 1))) ⟨gH (hOf (X3 1)), nOf (X3 1)⟩) ?_ (fun a' w' e => by rcases e with e | e <;> cases e) (fun j a' w' e => ?_) (fun a' w' e => by rcases e with e | e <;> cases e)
    · refine loop_first rcF_ok rfl es_eq (fun e he => ?_)
      simp only [List.mem_cons, List.mem_nil_iff, or_false] at he
      rcases he with rfl | rfl
      · refine ⟨p0, _, _, _, _, _, _, norm_eq x10, norm_eq x20, ?_⟩
        show Go.Vx.Good (X3 0) _
        rw [exit_eq x30]
        exact .inl rfl
      · refine ⟨p1, _, _, _, _, _, _, norm_eq x11, norm_eq x21, ?_⟩
        show Go.Vx.Good (X3 1) _
        rw [exit_eq x31]
        exact .inr rfl
    · rcases e with e | e
      · cases e
        rw [if_pos rfl]
        exact .inl rfl
      · cases e
        rw [if_pos rfl]
        exact .inr rfl
  · rintro a' w' (e | e)
    · cases e
      refine code_snd rcF_ok (rOf d19) _ _ _ _ ?_
      show Go.Vx.Good (X4 0) _
      rw [ret_eq x40]
      exact ⟨tOf (X4 0), hOf (X4 0), killS, .inl (by rw [n0']), resS0, hpo, hge, heapS0⟩
    · cases e
      refine code_snd rcF_ok (rOf d19) _ _ _ _ ?_
      show Go.Vx.Good (X4 1) _
      rw [ret_eq x41]
      exact ⟨tOf (X4 1), hOf (X4 1), killS, .inl (by rw [n1']), resS1, hpo, hge, heapS1⟩

def subI : Intr := atI 19 xsS ⟨gH (hOf Z8), nOf Z8⟩ (.int .i64 0) ⟨gH hS, 419⟩
theorem sub_ok (B0 : Nat) : IOk Tryz.prog B0 subI := at_ok hp mixed (ikF_ok B0) (vf := vf19) rfl submit_ev
def begI0 : Intr := fun f xs W K => IK ikF f xs W K ∨ subI f xs W K
theorem beg_ev : Ev begI0 pK vf9.body (enter xsB) ⟨gH H0, 0⟩ (EndAt vf9 0 (.ptr 5 0) hB 2305) := by
  have hc := chkS_true
  unfold chkS at hc
  obtain ⟨z7, hc⟩ := and2_split hc
  obtain ⟨z8, hc⟩ := and2_split hc
  have hb := chkB_true
  unfold chkB at hb
  obtain ⟨b1, hb⟩ := and2_split hb
  obtain ⟨b2, b3⟩ := and2_split hb
  have b2' := Nat.eq_of_beq_eq_true b2
  have hrc : RcOk begI0 pK rcF := rcok_mono (fun f xs W K h => .inl h) rcF_ok
  rw [← gT_enter (xs := xsB) rfl]
  refine chain_ev hrc 7 vf9.body (enterK xsB) H0 0 (norm_eq z7) ?_
  show Ev _ _ (.seq (.seq (.ops (l91 ++ o9 :: l92)) (coOf d9)) (rOf d9)) _ _ _
  refine call_mid hrc (norm_eq z8) rfl rfl rfl (.inr ⟨rfl, rfl, rfl, rfl, rfl⟩) ?_
  show Go.Vx.Good Z9 _
  rw [ret_eq b1]
  exact ⟨tOf Z9, hOf Z9, killB, .inl (by rw [b2']), resB, b3, rfl, heapB⟩
/-- the call at the start, by what it comes to -/
def begI : Intr := atI 9 xsB ⟨gH H0, 0⟩ (.ptr 5 0) ⟨gH hB, 2305⟩
theorem beg_ok (B0 : Nat) : IOk Tryz.prog B0 begI := at_ok hp mixed ((ikF_ok B0).or (sub_ok B0)) (vf := vf9) rfl beg_ev
end Go.Proofs.YtoehnfohceihbaaGreatDoor

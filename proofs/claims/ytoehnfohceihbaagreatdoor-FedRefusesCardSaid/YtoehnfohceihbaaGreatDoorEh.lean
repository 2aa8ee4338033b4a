/- The law's head: every pair of numbers. Conditions: none. -/
import Derived.Test.YtoehnfohceihbaaGreatDoorEt
import Derived.Test.YtoehnfohceihbaaGreatDoorKrefuses
import Derived.Test.YtoehnfohceihbaaGreatDoorEca
import Derived.Test.YtoehnfohceihbaaGreatDoorEcb
import Derived.Test.YtoehnfohceihbaaGreatDoorEcc
import Derived.Test.YtoehnfohceihbaaGreatDoorEcd
import Derived.Test.YtoehnfohceihbaaGreatDoorEce
import Derived.Test.YtoehnfohceihbaaGreatDoorEcf
import Derived.Test.YtoehnfohceihbaaGreatDoorEcg

set_option maxRecDepth 100000
set_option linter.unusedVariables false
namespace Go.Proofs.YtoehnfohceihbaaGreatDoor
open Go.Vx
theorem jn1 (a b : Int) : RgT 4 (zE a b) [(1, 2), (0, 1000)] := rg_under (fun z' h h' => rg_join h h') (rg_under (fun z' h h' => rg_join h h') (rg_under (fun z' h h' => rg_join h h') (rg_under (fun z' h h' => rg_join h h') (rg_under (fun z' h h' => rg_join h h') (rg_under (fun z' h h' => rg_join h h') (rg_under (fun z' h h' => rg_join h h') (okRg_spec _ _ (p1_0 a b)) (okRg_spec _ _ (p1_1 a b))) (okRg_spec _ _ (p1_2 a b))) (okRg_spec _ _ (p1_3 a b))) (okRg_spec _ _ (p1_4 a b))) (okRg_spec _ _ (p1_5 a b))) (okRg_spec _ _ (p1_6 a b))) (okRg_spec _ _ (p1_7 a b))
theorem k1 (a b : Int) : RgT 4 (zE a b) [(1, 2)] := rg_under (fun z' h _ => rg_all (Nat.le_refl _) h rfl) (jn1 a b) (jn1 a b)
theorem jn2 (a b : Int) : RgT 4 (zE a b) [(2, 3), (0, 1000)] := rg_under (fun z' h h' => rg_join h h') (rg_under (fun z' h h' => rg_join h h') (rg_under (fun z' h h' => rg_join h h') (rg_under (fun z' h h' => rg_join h h') (rg_under (fun z' h h' => rg_join h h') (rg_under (fun z' h h' => rg_join h h') (rg_under (fun z' h h' => rg_join h h') (okRg_spec _ _ (p2_0 a b)) (okRg_spec _ _ (p2_1 a b))) (okRg_spec _ _ (p2_2 a b))) (okRg_spec _ _ (p2_3 a b))) (okRg_spec _ _ (p2_4 a b))) (okRg_spec _ _ (p2_5 a b))) (okRg_spec _ _ (p2_6 a b))) (okRg_spec _ _ (p2_7 a b))
theorem k2 (a b : Int) : RgT 4 (zE a b) [(2, 3)] := rg_under (fun z' h _ => rg_all (Nat.le_refl _) h rfl) (jn2 a b) (jn2 a b)
theorem allE (a b : Int) : RgT 4 (zE a b) [] := rg_all (Nat.le_refl _) (rg_join (rg_join (rg_join (rg_join (okRg_spec _ _ (p0 a b)) (k1 a b)) (k2 a b)) (okRg_spec _ _ (p3 a b))) (okRg_spec _ _ (p6 a b))) rfl
def isV : Cz → Bool
  | .val (.bool true) _ _ => true
  | _ => false
theorem known_run : isV (runK ikF pK 100 7 [] H0 0) = true := by kernel_rfl
theorem known_ok : ∀ B0, IOk Tryz.prog B0 (closedI 7 true) := fun B0 => by
  have h := known_run
  cases e : runK ikF pK 100 7 [] H0 0 with
  | fail => rw [e] at h; cases h
  | val v h' nx' =>
    rw [e] at h
    cases v with
    | bool b =>
      cases b with
      | true => exact closed_ok hp mixed ikF_ok e (enterable_of q7) B0
      | false => cases h
    | _ => cases h
def lawE : Intr := fun f xs W K => IK ikF f xs W K ∨ (closedI 7 true f xs W K ∨ (withinI 8 f xs W K ∨ begI f xs W K))
theorem lawE_ok : ∀ B0, IOk Tryz.prog B0 lawE := fun B0 => (ikF_ok B0).or ((known_ok B0).or ((within_ok hp mixed (f := 8) (vf := vf8) rfl rfl rfl B0).or (beg_ok B0)))
theorem refuses_ev (a b : Int) : Ev lawE pK vf6.body (enter [.int .i64 a, .int .i64 b]) ⟨gH H0, 0⟩ (SaidT 4) := by
  show Ev lawE pK (.seq _ (.seq _ (.seq _ restE))) _ _ _
  refine seqE (.pu rfl rfl rfl (.nil rfl)) ?_
  refine seqE (seqE (.intr (K1 := fun v W => v = .bool true ∧ W = ⟨gH H0, 0⟩) rfl rfl (.inr (.inl ⟨rfl, rfl, rfl, rfl⟩)) (fun v W ⟨e1, e2⟩ => by subst e1; subst e2; exact .pu rfl rfl rfl (.nil rfl))) (.cond false rfl (.skip rfl))) ?_
  refine seqE (a1 := gT (trE a b)) (.pu rfl rfl rfl (.intr (K1 := fun v W => v = (.ptr 5 0) ∧ W = ⟨gH hB, 2305⟩) rfl rfl (.inr (.inr (.inr ⟨rfl, rfl, rfl, rfl, rfl⟩))) (fun v W ⟨e1, e2⟩ => by subst e1; subst e2; exact .pu rfl rfl rfl (.nil (by
    unfold trE
    rw [gT_fin rfl, gT_fin rfl, gT_fin rfl, gT_fin rfl, gT_fin rfl, gT_fin rfl, gT_enter (xs := [.int .i64 a, .int .i64 b]) rfl]
    rfl))))) ?_
  exact top_snd (fun f xs W K h => .inr (.inr (.inl h))) (rcok_mono (fun f xs W K h => .inl h) rcF_ok) restE _ _ _ _ (rg_good _ (allE a b))

theorem walkE (a b : Int) (w : World) : Calls Tryz.prog 6 #[.int .i64 a, .int .i64 b] w fun e w' => e = .returned (.bool true) ∧ w.keptBut w' (fun _ => False) :=
  said_calls hp mixed lawE_ok (vf := vf6) rfl rfl (refuses_ev a b) (.cons _ _ _ _ (.int _ _) (.cons _ _ _ _ (.int _ _) .nil))
end Go.Proofs.YtoehnfohceihbaaGreatDoor

/- No goroutine is started by any text: chunk by chunk. Conditions: none. -/
import GoSem.ClaimGoes

set_option linter.unusedVariables false
namespace Go.Vx

theorem any_chunks {α : Type} (p : α → Bool) (n : Nat) : ∀ (k : Nat) (l : List α), l.length ≤ n * k → (∀ j, j < k → ((l.drop (n * j)).take n).any p = false) → l.any p = false
  | 0, l, h, _ => by
    have : l = [] := List.length_eq_zero_iff.1 (by omega)
    subst this; rfl
  | k + 1, l, h, hc => by
    have h0 := hc 0 (by omega)
    have ih := any_chunks p n k (l.drop n) (by rw [List.length_drop]; have : n * (k + 1) = n * k + n := by rw [Nat.mul_add, Nat.mul_one]
                                               omega) (fun j hj => by
      have := hc (j + 1) (by omega)
      rw [List.drop_drop]
      have e : n * (j + 1) = n + n * j := by rw [Nat.mul_add, Nat.mul_one, Nat.add_comm]
      rw [e] at this
      exact this)
    have e : l = l.take n ++ l.drop n := (List.take_append_drop n l).symm
    rw [e, List.any_append, ih]
    simpa using h0

theorem goes_none {P : Program} (h : P.funcs.toList.any Func.goes = false) {c : OpenClaim} (hs : c.start = .entering) : false = c.goesBy P := by
  have ha : P.funcs.any Func.goes = false := by rw [← Array.any_toList]; exact h
  have key : ∀ g : Nat, (P.funcs[g]?).any Func.goes = false := fun g => by
    cases hg : P.funcs[g]? with
    | none => rfl
    | some fn =>
      have hm : fn ∈ P.funcs.toList := by
        have := Array.mem_of_getElem? hg
        simpa using this
      simp only [Option.any_some]
      cases hf : fn.goes with
      | false => rfl
      | true =>
        have : P.funcs.toList.any Func.goes = true := List.any_eq_true.2 ⟨fn, hm, hf⟩
        rw [h] at this; cases this
  have hf : ∀ f, P.goes f = false := fun f => by
    unfold Program.goes
    rw [ha]
    simp [key]
  unfold OpenClaim.goesBy Program.goesAt Program.goesFrom
  rw [hs]
  cases P.funcNamed c.func with
  | none => rfl
  | some f => simp [hf]
end Go.Vx

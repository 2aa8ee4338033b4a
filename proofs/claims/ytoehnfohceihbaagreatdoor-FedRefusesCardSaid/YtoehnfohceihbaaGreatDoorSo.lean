/- slices.Sorted over maps.Keys, at a map of one key: the contract off the shelf. Conditions: none. -/
import Derived.Test.YtoehnfohceihbaaGreatDoorJn
import Derived.Test.YtoehnfohceihbaaGreatDoorVc
import Derived.Shelf.SlIterI.Nil
import Derived.Shelf.SortM.Plain
import Derived.Shelf.SortM.SortNone

set_option maxRecDepth 100000
set_option linter.unusedVariables false
namespace Go.Proofs
open Go.RowKit Go.Maps Go.Sort Go.Shelf Go.Vx Go.WideElems

theorem Tryz.sortsA (m : Nat) : AnyZI.SortsIn Tryz.prog Tryz.sortedA_ren Fence.wide m :=
  ⟨fun blk off cap ss W hH hblk hsz => callsIn_wide.2 (AnyM.slices_Sort_int Tryz.sortA blk off cap ss W hH hblk hsz),
   fun p cap W => callsIn_wide.2 (AnyM.slices_Sort_int_none Tryz.sortA p cap W)⟩

theorem Tryz.key3 (n : Int) (hw : (Lit.int .i64 n).wf = true) : keyOf Tryz.prog 3 (.int .i64 n) = some (.int .i64 n) := by
  unfold keyOf
  simp [mapKey, Tryz.underlying3, hw]

theorem Tryz.sortedOne : SortedSpec Tryz.prog 31 [80] 3 := by
  refine ⟨⟨_, _, Tryz.func31, rfl, by kernel_rfl⟩, ?_⟩
  intro g hg Bm mb e clock n w hcell hmap hkey hborn hwf
  simp only [List.mem_cons, List.mem_nil_iff, or_false] at hg
  subst hg
  obtain ⟨key, val, born⟩ := e
  simp only at hkey hborn
  subst hkey
  have hrd : rd (H := Unit) Tryz.prog 3 (fun _ => some (DataW.nil, [])) ⟨.int .i64 n, val, born⟩ = some (.int .i64 n, DataW.nil) := rd_mk (yv := (DataW.nil, [])) (Tryz.key3 n hwf) rfl
  have hown : w.ownsMap Tryz.prog 3 (fun _ => some ((DataW.nil : DataW Unit), [])) mb 1 (.map [(.int .i64 n, .nil)]) := by
    refine ⟨#[⟨.int .i64 n, val, born⟩], clock, hmap, ⟨by show (1 : Nat) ≤ maxLen; decide, ⟨?_, ?_, ?_⟩, ?_⟩, Nat.le_refl _, ?_⟩
    · intro x hx
      simp at hx
      subst hx
      exact hborn
    · simp
    · simp
    · intro x hx
      simp at hx
      subst hx
      exact ⟨_, hrd⟩
    · simp [rg_of hrd, DataW.insert]
  have hBm : Bm < w.heap.size := block_lt_of_cell hcell
  have hseq : SeqGives Fence.wide 2 Tryz.prog 80 #[.pointer (some ⟨Bm, 0, none⟩)] encZ (fun ss => ss.Perm (intKeys (.map [(.int .i64 n, (DataW.nil : DataW Unit))]))) (Maps.size (.map [(.int .i64 n, (DataW.nil : DataW Unit))])) w :=
    AnyZI.keys_gives (ρ := Tryz.keysA_ren) { Tryz.keysA with } Fence.wide _ trivial rfl (by omega) Bm mb 1 _ w hBm hcell hown
  have cS := AnyZI.sorted_in Tryz.sortedA Fence.wide 5 trivial trivial trivial trivial rfl (by omega) (Tryz.sortsA _) (enters_of Tryz.func47 (by kernel_rfl) rfl) 80 #[.pointer (some ⟨Bm, 0, none⟩)] trivial (enters_of Tryz.func80 (by kernel_rfl) rfl) _ _ (by show (1 : Nat) ≤ maxLen; decide) (by show (1 : Nat) * 8 ≤ _; decide) _ hseq
  change CallsIn _ _ Tryz.prog 31 _ _ _ at cS
  refine ((callsIn_wide (n := 5)).1 cS).mono ?_
  rintro q w' ⟨v, ss, rfl, hS, hrow, _, hb⟩
  have hss : ss = [n] := by
    have : ss.Perm [n] := hS
    exact List.perm_singleton.1 this
  subst hss
  refine ⟨v, rfl, ?_, hb⟩
  have e2 : ([n].mergeSort (fun x y => decide (x ≤ y))).map encZ = [.int .i64 n] := by simp [encZ]
  rw [e2] at hrow
  exact hrow
end Go.Proofs

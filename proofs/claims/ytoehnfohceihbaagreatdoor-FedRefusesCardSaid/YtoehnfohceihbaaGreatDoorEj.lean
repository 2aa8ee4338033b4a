/- The closed facts of the law's row. Conditions: none. -/
import Derived.Test.YtoehnfohceihbaaGreatDoorCards
import Derived.Test.YtoehnfohceihbaaGreatDoorGs
import Derived.ProofKit
import Derived.LaidMore
import Derived.Deep.DeepHandedRow

set_option maxRecDepth 100000
namespace Go.Proofs.YtoehnfohceihbaaGreatDoor
open Go.Vx
theorem j0 : Rows.fedRefusesRow.wf (OpenSpec.ofChange (OpenSpec.ofChange Rows.fedRefusesSpec).bare) = true := by kernel_rfl
theorem j1 : laidOutB Tryz.pinned.checked.prog = true := by kernel_rfl
theorem j2 : mapsRowed Tryz.pinned.checked.prog = true := by kernel_rfl
theorem j3 : Tryz.f6.params.all (Tryz.pinned.checked.prog.readableRec ·) = true := by kernel_rfl
theorem j4 : namedTie Tryz.pinned.checked.prog Rows.fedRefusesRow.named (OpenSpec.ofChange Rows.fedRefusesSpec).bare.vars = true := by kernel_rfl
theorem j5 : (Rows.fedRefusesRow.stops == []) = true := by kernel_rfl
theorem j6 : (Tryz.pinned.checked.prog.stops == []) = true := by kernel_rfl
theorem j7 : (Rows.fedRefusesRow.knobs == []) = true := by kernel_rfl
theorem j8 : (Tryz.pinned.checked.prog.stopKnobs == []) = true := by kernel_rfl
theorem j9 : (Rows.fedRefusesRow.inPlace == Tryz.pinned.checked.prog.inPlace 6) = true := by kernel_rfl
theorem j10 : (Rows.fedRefusesRow.unfollowed == Tryz.pinned.checked.prog.unfollowed 6) = true := by kernel_rfl
theorem j11 : (Rows.fedRefusesRow.recurses == Tryz.pinned.checked.prog.recurses 6) = true := by kernel_rfl
theorem j12 : (Rows.fedRefusesRow.named == Tryz.pinned.checked.prog.varsNamed 6) = true := by kernel_rfl
theorem j13 : (Rows.fedRefusesRow.maps == (Tryz.f6.params.toList ++ (OpenSpec.ofChange Rows.fedRefusesSpec).bare.plain.varTypes Tryz.pinned.checked.prog).any (Tryz.pinned.checked.prog.mapsRec ·)) = true := by kernel_rfl
theorem j14 : (Rows.fedRefusesRow.ifaces == (Tryz.f6.params.toList ++ (OpenSpec.ofChange Rows.fedRefusesSpec).bare.plain.varTypes Tryz.pinned.checked.prog).any (Tryz.pinned.checked.prog.ifacesRec ·)) = true := by kernel_rfl
theorem j15 : (Rows.fedRefusesRow.mapsOut == Tryz.pinned.checked.prog.mapsAmong Tryz.f6.resultTypes.toList) = true := by kernel_rfl
theorem j16 : (Rows.fedRefusesRow.loops == (Tryz.f6.params.toList ++ (OpenSpec.ofChange Rows.fedRefusesSpec).bare.plain.varTypes Tryz.pinned.checked.prog).any (Tryz.pinned.checked.prog.loopsFrom ·)) = true := by kernel_rfl
theorem j17 : (Rows.fedRefusesRow.wideKeys == (Tryz.f6.params.toList ++ (OpenSpec.ofChange Rows.fedRefusesSpec).bare.plain.varTypes Tryz.pinned.checked.prog ++ Tryz.f6.resultTypes.toList).any (Tryz.pinned.checked.prog.wideKeysFrom ·)) = true := by kernel_rfl
theorem j18 : (OpenSpec.ofChange Rows.fedRefusesSpec).bare.vars.all (Tryz.pinned.checked.prog.varReadable ·) = true := by kernel_rfl
theorem j19 : Tryz.f6.resultTypes.all (fun t => Tryz.pinned.checked.prog.readableRec t && decide (t < Tryz.pinned.checked.prog.types.size)) = true := by kernel_rfl
theorem j20 : (Rows.fedRefusesRow.ifacesOut == Tryz.f6.resultTypes.toList.any (Tryz.pinned.checked.prog.ifacesRec ·)) = true := by kernel_rfl
theorem j21 : (Rows.fedRefusesRow.loopsOut == Tryz.f6.resultTypes.toList.any (Tryz.pinned.checked.prog.loopsFrom ·)) = true := by kernel_rfl
theorem j22 : (Rows.fedRefusesRow.plainKeys == Tryz.pinned.checked.prog.plainKeys) = true := by kernel_rfl
theorem j23 : Rows.fedRefusesRow.shortTexts.isNone = true := by kernel_rfl
theorem j24 : Tryz.pinned.checked.prog.stopsHeard = true := by kernel_rfl
theorem j25 : Tryz.pinned.checked.prog.mayEnter = true := by kernel_rfl
theorem j26 : (Rows.fedRefusesRow.lifted == Tryz.pinned.checked.prog.liftsFinal) = true := by kernel_rfl
theorem j27 : (Tryz.pinned.checked.prog.make == some Rows.fedRefusesRow.make) = true := by kernel_rfl
theorem j28 : (Rows.fedRefusesRow.kinds == (if Rows.fedRefusesRow.domain.isEmpty then [] else Tryz.f6.params.toList.map fun t => match Tryz.pinned.checked.prog.underlying t with | some (.int k) => some k | _ => none)) = true := by kernel_rfl
theorem j29 : (Rows.fedRefusesRow.pinned == Rows.fedRefusesRow.pinnedBy) = true := by kernel_rfl
theorem j30 : (Rows.fedRefusesRow.veiled == (Tryz.f6.params.toList ++ (OpenSpec.ofChange Rows.fedRefusesSpec).bare.plain.varTypes Tryz.pinned.checked.prog ++ Tryz.f6.resultTypes.toList).any (Tryz.pinned.checked.prog.veiledRec ·)) = true := by kernel_rfl
theorem j31 : Rows.fedRefusesRow.veiledFits Tryz.pinned.checked.prog Tryz.f6.params.toList (Tryz.f6.params.toList ++ (OpenSpec.ofChange Rows.fedRefusesSpec).bare.plain.varTypes Tryz.pinned.checked.prog ++ Tryz.f6.resultTypes.toList) = true := by kernel_rfl
theorem andT {a b : Bool} (h : a = true) (h' : b = true) : (a && b) = true := by rw [h, h']; rfl
theorem closed : joinedFacts Tryz.pinned.checked.prog 6 Tryz.f6 (OpenSpec.ofChange Rows.fedRefusesSpec).bare Rows.fedRefusesRow = true := by
  unfold joinedFacts
  exact (andT (andT (andT (andT (andT (andT (andT (andT (andT (andT (andT (andT (andT (andT (andT (andT (andT (andT (andT (andT (andT (andT (andT (andT (andT (andT (andT (andT (andT (andT (andT j0 j1) j2) j3) j4) j5) j6) j7) j8) j9) j10) j11) j12) j13) j14) j15) j16) j17) j18) j19) j20) j21) j22) j23) j24) j25) j26) j27) j28) j29) j30) j31)
theorem hfn : Tryz.pinned.checked.prog.funcNamed Rows.fedRefusesRow.func = some 6 := by kernel_rfl
theorem hinst : Tryz.f6.isInstance Tryz.pinned.checked.prog Rows.fedRefusesRow.origin Rows.fedRefusesRow.targs := of_decide_eq_true (by kernel_rfl)
theorem hwrap : Tryz.f6.isWrapper Tryz.pinned.checked.prog Rows.fedRefusesRow.wrapper Rows.fedRefusesRow.mainSum := by unfold Func.isWrapper; first | (rw [if_pos (by decide +kernel)]; kernel_rfl) | (rw [if_neg (by decide +kernel)]; exact ⟨rfl, rfl⟩)
theorem hw : Rows.fedRefusesRow.wfByText (OpenSpec.ofChange Rows.fedRefusesSpec) = true := by kernel_rfl
theorem hmain : Tryz.pinned.checked.prog.mainIs = some (Rows.fedRefusesCard.stood.harness.1, Rows.fedRefusesCard.stood.harness.2.toList) := by kernel_rfl
theorem g0 : ((Tryz.pinned.checked.prog.funcs.toList.drop (32 * 0)).take 32).any Func.goes = false := by kernel_rfl
theorem g1 : ((Tryz.pinned.checked.prog.funcs.toList.drop (32 * 1)).take 32).any Func.goes = false := by kernel_rfl
theorem g2 : ((Tryz.pinned.checked.prog.funcs.toList.drop (32 * 2)).take 32).any Func.goes = false := by kernel_rfl
theorem g3 : ((Tryz.pinned.checked.prog.funcs.toList.drop (32 * 3)).take 32).any Func.goes = false := by kernel_rfl
theorem g4 : ((Tryz.pinned.checked.prog.funcs.toList.drop (32 * 4)).take 32).any Func.goes = false := by kernel_rfl
theorem g5 : ((Tryz.pinned.checked.prog.funcs.toList.drop (32 * 5)).take 32).any Func.goes = false := by kernel_rfl
theorem g6 : ((Tryz.pinned.checked.prog.funcs.toList.drop (32 * 6)).take 32).any Func.goes = false := by kernel_rfl
theorem g7 : ((Tryz.pinned.checked.prog.funcs.toList.drop (32 * 7)).take 32).any Func.goes = false := by kernel_rfl
theorem g8 : ((Tryz.pinned.checked.prog.funcs.toList.drop (32 * 8)).take 32).any Func.goes = false := by kernel_rfl
theorem g9 : ((Tryz.pinned.checked.prog.funcs.toList.drop (32 * 9)).take 32).any Func.goes = false := by kernel_rfl
theorem g10 : ((Tryz.pinned.checked.prog.funcs.toList.drop (32 * 10)).take 32).any Func.goes = false := by kernel_rfl
theorem g11 : ((Tryz.pinned.checked.prog.funcs.toList.drop (32 * 11)).take 32).any Func.goes = false := by kernel_rfl
theorem g12 : ((Tryz.pinned.checked.prog.funcs.toList.drop (32 * 12)).take 32).any Func.goes = false := by kernel_rfl
theorem g13 : ((Tryz.pinned.checked.prog.funcs.toList.drop (32 * 13)).take 32).any Func.goes = false := by kernel_rfl
theorem g14 : ((Tryz.pinned.checked.prog.funcs.toList.drop (32 * 14)).take 32).any Func.goes = false := by kernel_rfl
theorem goesAll : Tryz.pinned.checked.prog.funcs.toList.any Func.goes = false :=
  any_chunks Func.goes 32 15 _ (of_decide_eq_true (by kernel_rfl)) (fun j hj => match j, hj with
    | 0, _ => g0
    | 1, _ => g1
    | 2, _ => g2
    | 3, _ => g3
    | 4, _ => g4
    | 5, _ => g5
    | 6, _ => g6
    | 7, _ => g7
    | 8, _ => g8
    | 9, _ => g9
    | 10, _ => g10
    | 11, _ => g11
    | 12, _ => g12
    | 13, _ => g13
    | 14, _ => g14
    | k + 15, hj => by omega)
theorem hgoes : false = Rows.fedRefusesRow.goesBy Tryz.pinned.checked.prog := goes_none goesAll rfl
end Go.Proofs.YtoehnfohceihbaaGreatDoor
